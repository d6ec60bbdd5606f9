import PyProof.Rows.All
import Wide.All
import OpenK.AllK
import Wide.FinOn
import HandS.ForMost
import HandS.ForExc
import HandS.TupAny
import HandS.Deep
import HandS.SortInts
import HandS.IsInst
import HandS.ExcIs
import HandS.Wide
import HandS.Style
import HandS.Conv
import HandS.RaiseMore
import HandS.More
import HandS.Defaults
import KE.DataMinMax
import KE.SortData
import KE.DataFind
import KE.DataIsa
import PyProof.ReprReads
import KE.KStateDown
import HandS.HeadEnd
import HandS.HeadHook2
import HandS.Head0
import HandS.Head1
import HandS.Head2
import HandS.HeadHook1
import HandS.HeadHook3
import HandS.HeadHook4
import HandS.Small
import HandS.ListItems
import PyProof.SumAny
import HandS.SetFor
import HandS.TupSets
import PyProof.ReprRoads
import HandS.ExcValue
import KE.KDictZip
import HandS.Flt
import HandS.HotCalls
import HandS.Text
import HandS.Iter
import PyProof.P3In
import KE.KDictWalk
import KE.KDictCopyH
import PyProof.EqKinds
import KE.DataCmp
import KE.Datum
import KE.DatumMore
import KE.KEqDict
import HandS.TupLen
import PyProof.Rows.SetFrom
import KE.GoesEnum
import KE.GoesMore
import HandS.Replace
import HandS.ReplaceLit
import PySem.Challenge.RW_farorders_k78_texts_of_no_orders
import PyProof.ReprLen
set_option Elab.async false
set_option linter.all false
set_option maxRecDepth 100000
namespace VL
open PySem
/-- a thing with things of its own: frozen data, or a new list, tuple, instance (of a class of the module, by its attributes) of such -/
inductive Nd where
  | lst
  | tup
  | ins (c : Str) (fs : List Str)
inductive Tr where
  | fr (d : PyData)
  | nd (k : Nd) (ts : List Tr)
mutual
/-- as data, where nothing is an instance -/
def Tr.dat : Tr → Option PyData
  | .fr d => some d
  | .nd .lst ts => (Tr.dats ts).map .list
  | .nd .tup ts => (Tr.dats ts).map .tuple
  | .nd (.ins _ _) _ => none
def Tr.dats : List Tr → Option (List PyData)
  | [] => some []
  | t :: ts => t.dat.bind fun d => (Tr.dats ts).map (d :: ·)
end
/-- what a name holds: frozen data; a list or dict of its own, which may be changed; an error; another thing of its own, told by data -/
inductive B where
  | fr (d : PyData)
  | ow (ds : List PyData)
  | od (kvs : List (PyData × PyData))
  | ex (c : Str)
  | rs (k : Nat) (d : PyData)
  | sc (ns : List Int)
  | tr (t : Tr)
abbrev Env := List (Option B)
/-- an operand: the name in a slot, or a value -/
inductive O where
  | s (i : Nat)
  | b (x : B)
inductive Out (α : Type) where
  | ok (a : α) (e : Env)
  | ex (c : Str) (e : Env)
inductive SO where
  | nx (e : Env)
  | rt (b : B) (e : Env)
  | bk (e : Env)
  | ct (e : Env)
  | ex (c : Str) (e : Env)
abbrev FE := Env → Option (Out O)
abbrev FD := Env → Option (Out (List PyData))
abbrev FA := Env → Option (Out (List O))
abbrev FT := Env → Option (Out Bool)
abbrev FS := Env → Option SO
def B.dat : B → Option PyData
  | .fr d => some d
  | .ow ds => some (.list ds)
  | .od kvs => some (.dict kvs)
  | .ex _ => none
  | .rs _ _ => none
  | .sc _ => none
  | .tr _ => none
def at? (e : Env) (i : Nat) : Option B := match e[i]? with
  | some x => x
  | none => none
/-- what is read -/
def res (e : Env) : O → Option PyData
  | .s i => (at? e i).bind B.dat
  | .b b => b.dat
/-- frozen: data that is not changed any more -/
def fz (e : Env) : O → Option (PyData × Env)
  | .s i => match at? e i with
    | some (.fr d) => some (d, e)
    | some (.ow ds) => some (.list ds, e.set i (some (.fr (.list ds))))
    | some (.od kvs) => some (.dict kvs, e.set i (some (.fr (.dict kvs))))
    | some (.tr t) => t.dat.map fun d => (d, e.set i (some (.fr d)))
    | _ => none
  | .b b => match b with
    | .fr d => some (d, e)
    | .ow ds => some (.list ds, e)
    | .od kvs => some (.dict kvs, e)
    | .tr t => t.dat.map fun d => (d, e)
    | _ => none
/-- frozen, or an error, or the script -/
def fzB (e : Env) : O → Option (B × Env)
  | .s i => match at? e i with
    | some (.ex c) => some (.ex c, e)
    | some (.sc ns) => some (.sc ns, e)
    | _ => (fz e (.s i)).map fun p => (.fr p.1, p.2)
  | .b b => match b with
    | .ex c => some (.ex c, e)
    | .sc ns => some (.sc ns, e)
    | _ => (fz e (.b b)).map fun p => (.fr p.1, p.2)
def bnd {α β : Type} (r : Option (Out α)) (k : α → Env → Option (Out β)) : Option (Out β) := match r with
  | none => none
  | some (.ok a e) => k a e
  | some (.ex c e) => some (.ex c e)
def bndS {α : Type} (r : Option (Out α)) (k : α → Env → Option SO) : Option SO := match r with
  | none => none
  | some (.ok a e) => k a e
  | some (.ex c e) => some (.ex c e)
def ok {α : Type} (a : α) (e : Env) : Option (Out α) := some (.ok a e)
/-- frozen data as an operand -/
def okD (d : PyData) (e : Env) : Option (Out O) := some (.ok (.b (.fr d)) e)
def fVar (i : Nat) : FE := fun e => match at? e i with
  | some _ => some (.ok (.s i) e)
  | none => none
def fC (d : PyData) : FE := fun e => okD d e
def fBin (op : PyData → PyData → Option B) (fa fb : FE) : FE := fun e => bnd (fa e) fun o1 e1 => bnd (fb e1) fun o2 e2 =>
  (res e2 o1).bind fun x => (res e2 o2).bind fun y => (op x y).bind fun z => some (.ok (.b z) e2)
def fUn (op : PyData → Option B) (fa : FE) : FE := fun e => bnd (fa e) fun o1 e1 => (res e1 o1).bind fun x => (op x).bind fun z => some (.ok (.b z) e1)
/-- items of a display, each frozen -/
def dNil : FD := fun e => some (.ok [] e)
def dCons (f : FE) (r : FD) : FD := fun e => bnd (f e) fun o e1 => (fz e1 o).bind fun p => bnd (r p.2) fun ds e2 => some (.ok (p.1 :: ds) e2)
def fLst (r : FD) : FE := fun e => bnd (r e) fun ds e1 => if ds.length ≤ 1000 then some (.ok (.b (.ow ds)) e1) else none
def fTup (r : FD) : FE := fun e => bnd (r e) fun ds e1 => if ds.length ≤ 1000 then some (.ok (.b (.fr (.tuple ds))) e1) else none
/-- tests -/
def fTest (f : FE) : FT := fun e => bnd (f e) fun o e1 => match res e1 o with
  | some (.bool b) => some (.ok b e1)
  | _ => none
def tAnd (t u : FT) : FT := fun e => bnd (t e) fun b e1 => match b with
  | true => u e1
  | false => some (.ok false e1)
def tOr (t u : FT) : FT := fun e => bnd (t e) fun b e1 => match b with
  | true => some (.ok true e1)
  | false => u e1
def tNot (t : FT) : FT := fun e => bnd (t e) fun b e1 => some (.ok (!b) e1)
def fIf (t : FT) (fa fb : FE) : FE := fun e => bnd (t e) fun b e1 => match b with
  | true => fa e1
  | false => fb e1
def sNil : FS := fun e => some (.nx e)
def sSeq (f g : FS) : FS := fun e => match f e with
  | some (.nx e1) => g e1
  | r => r
def sExpr (f : FE) : FS := fun e => bndS (f e) fun _ e1 => some (.nx e1)
/-- x = e, frozen -/
def sAsg (i : Nat) (f : FE) : FS := fun e => bndS (f e) fun o e1 => (fzB e1 o).bind fun p => some (.nx (p.2.set i (some p.1)))
/-- x = e, x's own from here on -/
def sOwn (i : Nat) (f : FE) : FS := fun e => bndS (f e) fun o e1 => match o with
  | .b b => some (.nx (e1.set i (some b)))
  | .s _ => none
/-- return of a new list: the caller's own -/
def sRetO (f : FE) : FS := fun e => bndS (f e) fun o e1 => match o with
  | .b b => some (.rt b e1)
  | .s i => (at? e1 i).bind fun b => some (.rt b (e1.set i none))
def sRetN : FS := fun e => some (.rt (.fr .none) e)
def sIf (t : FT) (f g : FS) : FS := fun e => bndS (t e) fun b e1 => match b with
  | true => f e1
  | false => g e1
def sRaise (c : Str) : FS := fun e => some (.ex c e)
def sBrk : FS := fun e => some (.bk e)
/-- names forgotten -/
def forget (vs : List Nat) (e : Env) : Env := vs.foldl (fun e i => e.set i none) e
end VL
namespace VL
open PySem L2
def aNil : FA := fun e => some (.ok [] e)
def aCons (f : FE) (r : FA) : FA := fun e => bnd (f e) fun o e1 => bnd (r e1) fun os e2 => some (.ok (o :: os) e2)
def resAll (e : Env) : List O → Option (List PyData)
  | [] => some []
  | o :: os => (res e o).bind fun d => (resAll e os).bind fun ds => some (d :: ds)
def fCB (g : List PyData → Option B) (fa : FA) : FE := fun e => bnd (fa e) fun os e1 => (resAll e1 os).bind fun ds => (g ds).bind fun z => some (.ok (.b z) e1)
/-- a < b < c -/
def fChain (g h : PyData → PyData → Option B) (fa fb fc : FE) : FE := fun e => bnd (fa e) fun o1 e1 => bnd (fb e1) fun o2 e2 =>
  (res e2 o1).bind fun x => (res e2 o2).bind fun y => match g x y with
    | some (.fr (.bool true)) => bnd (fc e2) fun o3 e3 => (res e3 o2).bind fun y' => (res e3 o3).bind fun z => (h y' z).bind fun r => some (.ok (.b r) e3)
    | some (.fr (.bool false)) => some (.ok (.b (.fr (.bool false))) e2)
    | _ => none
def fAndV (fa fb : FE) : FE := fun e => bnd (fa e) fun o e1 => match res e1 o with
  | some (.bool true) => fb e1
  | some (.bool false) => okD (.bool false) e1
  | _ => none
def fOrV (fa fb : FE) : FE := fun e => bnd (fa e) fun o e1 => match res e1 o with
  | some (.bool true) => okD (.bool true) e1
  | some (.bool false) => fb e1
  | _ => none
def fNotV (fa : FE) : FE := fun e => bnd (fa e) fun o e1 => match res e1 o with
  | some (.bool b) => okD (.bool (!b)) e1
  | _ => none
def big : Nat := 1000000
def oAdd : PyData → PyData → Option B
  | .int i, .int j => some (.fr (.int (i + j)))
  | .str a, .str b => if a.length + b.length ≤ big then some (.fr (.str (a ++ b))) else none
  | .list xs, .list ys => if xs.length + ys.length ≤ big then some (.ow (xs ++ ys)) else none
  | .tuple xs, .tuple ys => if xs.length + ys.length ≤ big then some (.fr (.tuple (xs ++ ys))) else none
  | _, _ => none
def cMul (i j : Int) : Bool := decide (i.natAbs < 2 ^ 64) || decide (j.natAbs < 2 ^ 64)
def oMul : PyData → PyData → Option B
  | .int i, .int j => if cMul i j = true then some (.fr (.int (i * j))) else none
  | .list xs, .int k => if k.natAbs < 2 ^ 63 ∧ xs.length * k.toNat ≤ big then some (.ow (List.replicate k.toNat xs).flatten) else none
  | _, _ => none
def cFdiv (i j : Int) : Bool := decide (0 < j) && decide (j.natAbs < 2 ^ 200)
def isE : PyData → PyData → Option Bool
  | .list xs, .list [] => some xs.isEmpty
  | .str a, .str b => some (a == b)
  | _, _ => none
def oEq : PyData → PyData → Option B := fun x y => if SeqAt.shaped x = true ∧ SeqAt.shaped y = true then some (.fr (.bool (PyData.eqv x y))) else (isE x y).map fun b => .fr (.bool b)
def oNe : PyData → PyData → Option B := fun x y => if SeqAt.shaped x = true ∧ SeqAt.shaped y = true then some (.fr (.bool (!PyData.eqv x y))) else (isE x y).map fun b => .fr (.bool (!b))
def oIn : PyData → PyData → Option B
  | x, .list ds => if SeqAt.shaped x = true ∧ SeqAt.shaped (.list ds) = true then some (.fr (.bool (ds.any fun z => PyData.eqv z x))) else none
  | .str a, .str z => if a.cps.size = 1 then some (.fr (.bool (decide (a.cps.getD 0 0 ∈ z.cps.toList)))) else none
  | _, _ => none
def oNotIn : PyData → PyData → Option B
  | x, .list ds => if SeqAt.shaped x = true ∧ SeqAt.shaped (.list ds) = true then some (.fr (.bool (!ds.any fun z => PyData.eqv z x))) else none
  | .str a, .str z => if a.cps.size = 1 then some (.fr (.bool (!decide (a.cps.getD 0 0 ∈ z.cps.toList)))) else none
  | _, _ => none
def isNone : PyData → Bool
  | .none => true
  | _ => false
def oIs : PyData → PyData → Option B
  | x, .none => some (.fr (.bool (isNone x)))
  | .bool a, .bool b => some (.fr (.bool (decide (a = b))))
  | _, _ => none
def oIx : PyData → PyData → Option B
  | .list ds, .int i => (atI ds i).map .fr
  | .tuple ds, .int i => (atI ds i).map .fr
  | .str z, .int i => if z.length ≤ big then (atI z.cps.toList i).map fun c => .fr (.str ⟨#[c]⟩) else none
  | _, _ => none
/-- a part of a slice -/
abbrev FO := Env → Option (Out (Option Int))
def oNo : FO := fun e => some (.ok none e)
def oSome (f : FE) : FO := fun e => bnd (f e) fun o e1 => match res e1 o with
  | some (.int i) => some (.ok (some i) e1)
  | _ => none
def cutD {α : Type} (xs : List α) (lo hi : Option Int) : List α := (xs.drop (HT.sIx xs.length 0 lo)).take (HT.sIx xs.length xs.length hi - HT.sIx xs.length 0 lo)
def oSl : PyData → Option Int → Option Int → Option B
  | .list ds, lo, hi => some (.ow (cutD ds lo hi))
  | .str z, lo, hi => if z.length ≤ big then some (.fr (.str (cutS z lo hi))) else none
  | _, _, _ => none
def fSl (fa : FE) (fl fh : FO) : FE := fun e => bnd (fa e) fun o e1 => bnd (fl e1) fun l e2 => bnd (fh e2) fun h e3 => (res e3 o).bind fun x => (oSl x l h).bind fun z => some (.ok (.b z) e3)
def oRev : PyData → Option B
  | .list ds => some (.ow ds.reverse)
  | _ => none
def asInts : List PyData → Option (List Int)
  | [] => some []
  | .int i :: ds => (asInts ds).map (i :: ·)
  | _ => none
def gLen : List PyData → Option B
  | [.list ds] => some (.fr (.int ds.length))
  | [.tuple ds] => some (.fr (.int ds.length))
  | [.str z] => if z.length ≤ big then some (.fr (.int z.length)) else none
  | [.dict ks] => some (.fr (.int ks.length))
  | _ => none
def maxI : List Int → Int
  | [] => 0
  | x :: xs => xs.foldl max x
def minI : List Int → Int
  | [] => 0
  | x :: xs => xs.foldl min x
def gMax : List PyData → Option B
  | [.int i, .int j] => some (.fr (.int (if j > i then j else i)))
  | [.list (d :: ds)] => (asInts (d :: ds)).map fun ns => .fr (.int (maxI ns))
  | _ => none
def gMin : List PyData → Option B
  | [.int i, .int j] => some (.fr (.int (if j < i then j else i)))
  | [.list (d :: ds)] => (asInts (d :: ds)).map fun ns => .fr (.int (minI ns))
  | _ => none
def gInt : List PyData → Option B
  | [.int i] => some (.fr (.int i))
  | [.bool b] => some (.fr (.int (if b then 1 else 0)))
  | _ => none
def gList : List PyData → Option B
  | [.list ds] => some (.ow ds)
  | [.tuple ds] => some (.ow ds)
  | _ => none
/-- sorted, of ints -/
def leI (a b : Int) : Bool := decide (a ≤ b)
def gSorted : List PyData → Option B
  | [.list ds] => (asInts ds).map fun ns => .ow ((ns.mergeSort leI).map .int)
  | _ => none
end VL
namespace VL
open PySem L2
abbrev FI := Env → Option (Out (List PyData))
/-- a list (frozen), a tuple -/
def iSeq (f : FE) : FI := fun e => bnd (f e) fun o e1 => (fz e1 o).bind fun p => match p.1 with
  | .list ds => some (.ok ds p.2)
  | _ => none
def iText (f : FE) : FI := fun e => bnd (f e) fun o e1 => (fz e1 o).bind fun p => match p.1 with
  | .str z => some (.ok (z.cps.toList.map fun c => .str ⟨#[c]⟩) p.2)
  | _ => none
def rngN (lo : Int) (n : Nat) : List PyData := (List.range n).map fun (i : Nat) => .int (lo + (i : Int))
def lim (i : Int) : Bool := decide (i.natAbs < 2 ^ 62)
def iRange1 (f : FE) : FI := fun e => bnd (f e) fun o e1 => match res e1 o with
  | some (.int j) => if lim j = true then some (.ok (rngN 0 j.toNat) e1) else none
  | _ => none
def iRange2 (f g : FE) : FI := fun e => bnd (f e) fun o e1 => bnd (g e1) fun o2 e2 => match res e2 o, res e2 o2 with
  | some (.int i), some (.int j) => if lim i = true ∧ lim j = true then some (.ok (rngN i (j - i).toNat) e2) else none
  | _, _ => none
abbrev FG := PyData → Env → Option Env
def gN (i : Nat) : FG := fun d e => some (e.set i (some (.fr d)))
def sForL (g : FG) (body : FS) (dead : List Nat) : List PyData → FS
  | [], e => some (.nx (forget dead e))
  | d :: ds, e => match g d e with
    | none => none
    | some e1 => match body e1 with
      | some (.nx e2) => sForL g body dead ds (forget dead e2)
      | some (.ct e2) => sForL g body dead ds (forget dead e2)
      | some (.bk e2) => some (.nx (forget dead e2))
      | some (.rt b e2) => some (.rt b e2)
      | some (.ex c e2) => some (.ex c e2)
      | none => none
def sFor (fi : FI) (g : FG) (body : FS) (dead : List Nat) : FS := fun e => bndS (fi e) fun ds e1 => sForL g body dead ds e1
def tTrue : FT := fun e => some (.ok true e)
def fLcL (g : FG) (t : FT) (f : FE) (vs : List Nat) : List PyData → List PyData → Env → Option (Out O)
  | [], acc, e => some (.ok (.b (.ow acc)) e)
  | d :: ds, acc, e => match g d e with
    | none => none
    | some e1 => match t e1 with
      | some (.ok true e2) => match f e2 with
        | some (.ok o e3) => match fz e3 o with
          | some p => if acc.length < big then fLcL g t f vs ds (acc ++ [p.1]) (forget vs p.2) else none
          | none => none
        | _ => none
      | some (.ok false e2) => fLcL g t f vs ds acc (forget vs e2)
      | _ => none
def fLc (fi : FI) (g : FG) (t : FT) (f : FE) (vs : List Nat) : FE := fun e => bnd (fi e) fun ds e1 => fLcL g t f vs ds [] (forget vs e1)
inductive FR where
  | ret (b : B) (e : Env)
  | ex (c : Str) (e : Env)
abbrev Fn := List B → Option FR
/-- a def by its body, n names in all -/
def runF (g : FS) (n : Nat) : Fn := fun bs => match g (bs.map some ++ List.replicate (n - bs.length) none) with
  | some (.nx e) => some (.ret (.fr .none) e)
  | some (.rt b e) => some (.ret b e)
  | some (.ex c e) => some (.ex c e)
  | _ => none
/-- arguments: frozen; a name of one's own handed in to be changed -/
def aF (f : FE) (r : FA) : FA := fun e => bnd (f e) fun o e1 => (fzB e1 o).bind fun p => bnd (r p.2) fun os e2 => some (.ok (.b p.1 :: os) e2)
def aM (i : Nat) (r : FA) : FA := fun e => match at? e i with
  | some _ => bnd (r e) fun os e2 => some (.ok (.s i :: os) e2)
  | none => none
def bindO (e : Env) : List O → Option (List B)
  | [] => some []
  | .b x :: os => (bindO e os).bind fun bs => some (x :: bs)
  | .s i :: os => (at? e i).bind fun x => (bindO e os).bind fun bs => some (x :: bs)
/-- mi: (the parameter's place, the caller's slot) -/
def putBack (e2 : Env) : List (Nat × Nat) → Env → Env
  | [], e => e
  | (j, i) :: r, e => putBack e2 r (e.set i (at? e2 j))
/-- where the arguments' slots are those of mi, and all else is frozen -/
def slotsOk (mi : List (Nat × Nat)) : Nat → List O → Bool
  | _, [] => true
  | j, .s i :: os => decide ((j, i) ∈ mi) && slotsOk mi (j + 1) os
  | j, .b x :: os => (match x with
    | .fr _ => true
    | .ex _ => true
    | .sc _ => true
    | _ => false) && slotsOk mi (j + 1) os
def miOk (mi : List (Nat × Nat)) (os : List O) : Bool := mi.all fun p => match os[p.1]? with
  | some (.s i) => i == p.2
  | _ => false
def fCall (F : Fn) (n : Nat) (mi : List (Nat × Nat)) (fa : FA) : FE := fun e => bnd (fa e) fun os e1 => if (slotsOk mi 0 os && miOk mi os && os.length == n) = true then (bindO e1 os).bind fun bs => match F bs with
  | none => none
  | some (.ret b e2) => some (.ok (.b b) (putBack e2 mi e1))
  | some (.ex c e2) => some (.ex c (putBack e2 mi e1)) else none
/-- names of one's own lent to be read; the answer is flat -/
def isFlat : PyData → Bool
  | .none => true
  | .bool _ => true
  | .int _ => true
  | .str _ => true
  | _ => false
def aP (f : FE) (r : FA) : FA := fun e => bnd (f e) fun o e1 => match o with
  | .s i => bnd (r e1) fun os e2 => some (.ok (.s i :: os) e2)
  | .b _ => (fzB e1 o).bind fun p => bnd (r p.2) fun os e2 => some (.ok (.b p.1 :: os) e2)
def lent : B → Option B
  | .fr d => some (.fr d)
  | .ow ds => some (.fr (.list ds))
  | .od ks => some (.fr (.dict ks))
  | .ex c => some (.ex c)
  | .sc ns => some (.sc ns)
  | .rs _ _ => none
  | .tr t => t.dat.map .fr
def lendO (e : Env) : List O → Option (List B)
  | [] => some []
  | .b x :: os => (lendO e os).bind fun bs => some (x :: bs)
  | .s i :: os => ((at? e i).bind lent).bind fun x => (lendO e os).bind fun bs => some (x :: bs)
/-- nothing owned in what is handed in as a value -/
def flatO : List O → Bool
  | [] => true
  | .s _ :: os => flatO os
  | .b x :: os => (match x with
    | .fr _ => true
    | .ex _ => true
    | .sc _ => true
    | _ => false) && flatO os
def fCallP (F : Fn) (n : Nat) (fa : FA) : FE := fun e => bnd (fa e) fun os e1 => if flatO os = true then (lendO e1 os).bind fun bs => if bs.length = n then match F bs with
  | some (.ret (.fr d) _) => if isFlat d = true then okD d e1 else none
  | some (.ex c _) => some (.ex c e1)
  | _ => none else none else none
end VL
namespace VL
open PySem L2
/-- x.m(..), x in slot i -/
def fMth (i : Nat) (g : List PyData → List PyData → Option (B × List PyData)) (fd : FD) : FE := fun e => match at? e i with
  | some (.ow _) => bnd (fd e) fun as e1 => match at? e1 i with
    | some (.ow ds) => (g ds as).bind fun p => some (.ok (.b p.1) (e1.set i (some (.ow p.2))))
    | _ => none
  | _ => none
def lim63 (i : Int) : Bool := decide (i.natAbs < 2 ^ 63)
def mPop (ds : List PyData) : List PyData → Option (B × List PyData)
  | [] => (ds[ds.length - 1]?).map fun d => (.fr d, ds.dropLast)
  | [.int i] => if lim63 i = true then (seqIndex? i ds.length).bind fun k => (ds[k]?).map fun d => (.fr d, ds.eraseIdx k) else none
  | _ => none
def mInsert (ds : List PyData) : List PyData → Option (B × List PyData)
  | [.int i, d] => if 0 ≤ i ∧ i.natAbs < 2 ^ 62 ∧ ds.length < big then some (.fr .none, ds.take i.toNat ++ [d] ++ ds.drop i.toNat) else none
  | _ => none
/-- x[f] = .., x in slot i -/
def putAt (i : Nat) (f : FE) (d : PyData) : Env → Option (Out Unit) := fun e => match at? e i with
  | none => none
  | some _ => bnd (f e) fun o e1 => match res e1 o, at? e1 i with
    | some (.int k), some (.ow ds) => (ixN ds.length k).bind fun j => some (.ok () (e1.set i (some (.ow (ds.set j d)))))
    | _, _ => none
def sPut (i : Nat) (fx fv : FE) : FS := fun e => bndS (fv e) fun o e1 => (fz e1 o).bind fun p => bndS (putAt i fx p.1 p.2) fun _ e2 => some (.nx e2)
/-- x[a], y[b] = u, v -/
def sPut2 (i : Nat) (fx : FE) (j : Nat) (fy : FE) (fd : FD) : FS := fun e => bndS (fd e) fun ds e1 => match ds with
  | [a, b] => bndS (putAt i fx a e1) fun _ e2 => bndS (putAt j fy b e2) fun _ e3 => some (.nx e3)
  | _ => none
end VL
set_option maxRecDepth 100000
namespace VL
open PySem L2
def kP : Key → PyData
  | .inl i => .int i
  | .inr x => .str x
mutual
inductive Rp (K : PySem.W.Frag) (G : Hp) : V → PyData → Prop
  | non : Rp K G .non .none
  | bl (b : Bool) : Rp K G (.bl b) (.bool b)
  | int (i : Int) : Rp K G (.int i) (.int i)
  | str (x : Str) : Rp K G (.str x) (.str x)
  | lst {a : Addr} {xs : List V} {ds : List PyData} : G a = some (.lst xs) → RpAll K G xs ds → Rp K G (.ref a) (.list ds)
  | tup {a : Addr} {xs : List V} {ds : List PyData} : G a = some (.tup xs) → RpAll K G xs ds → Rp K G (.ref a) (.tuple ds)
  | dic {a : Addr} {ks : List (Key × V)} {ds : List (PyData × PyData)} : G a = some (.dK ks) → ks.map (fun p => kP p.1) = ds.map (·.1) → RpAll K G (ks.map (·.2)) (ds.map (·.2)) → Rp K G (.ref a) (.dict ds)
inductive RpAll (K : PySem.W.Frag) (G : Hp) : List V → List PyData → Prop
  | nil : RpAll K G [] []
  | cons {v : V} {vs : List V} {d : PyData} {ds : List PyData} : Rp K G v d → RpAll K G vs ds → RpAll K G (v :: vs) (d :: ds)
end
section
variable {K : PySem.W.Frag} {G G' : Hp}
mutual
theorem Rp.mono (e : Same G G') : ∀ {v : V} {d : PyData}, Rp K G v d → Rp K G' v d
  | _, _, .non => .non
  | _, _, .bl b => .bl b
  | _, _, .int i => .int i
  | _, _, .str x => .str x
  | _, _, .lst h a => .lst (e _ _ h) (RpAll.mono e a)
  | _, _, .tup h a => .tup (e _ _ h) (RpAll.mono e a)
  | _, _, .dic h k a => .dic (e _ _ h) k (RpAll.mono e a)
theorem RpAll.mono (e : Same G G') : ∀ {vs : List V} {ds : List PyData}, RpAll K G vs ds → RpAll K G' vs ds
  | _, _, .nil => .nil
  | _, _, .cons h t => .cons (Rp.mono e h) (RpAll.mono e t)
end
theorem RpAll.length : ∀ {vs : List V} {ds : List PyData}, RpAll K G vs ds → vs.length = ds.length
  | _, _, .nil => rfl
  | _, _, .cons _ t => by rw [List.length_cons, List.length_cons, RpAll.length t]
theorem RpAll.append : ∀ {vs ws : List V} {ds es : List PyData}, RpAll K G vs ds → RpAll K G ws es → RpAll K G (vs ++ ws) (ds ++ es)
  | _, _, _, _, .nil, k => k
  | _, _, _, _, .cons h t, k => .cons h (RpAll.append t k)
theorem RpAll.get : ∀ {vs : List V} {ds : List PyData} {i : Nat} {d : PyData}, RpAll K G vs ds → ds[i]? = some d → ∃ v, vs[i]? = some v ∧ Rp K G v d
  | _, _, _, _, .nil, e => by simp at e
  | _, _, 0, _, .cons r _, e => by simp at e; subst e; exact ⟨_, rfl, r⟩
  | _, _, i + 1, d, .cons _ t, e => by
    obtain ⟨u, h1, h2⟩ := RpAll.get (i := i) (d := d) t (by simpa using e)
    exact ⟨u, by simpa using h1, h2⟩
theorem RpAll.set {v : V} {d : PyData} (r : Rp K G v d) : ∀ {vs : List V} {ds : List PyData} (i : Nat), RpAll K G vs ds → RpAll K G (vs.set i v) (ds.set i d)
  | _, _, _, .nil => .nil
  | _, _, 0, .cons _ t => .cons r t
  | _, _, i + 1, .cons q t => .cons q (RpAll.set r i t)
theorem RpAll.take : ∀ {vs : List V} {ds : List PyData} (n : Nat), RpAll K G vs ds → RpAll K G (vs.take n) (ds.take n)
  | _, _, 0, _ => .nil
  | _, _, _ + 1, .nil => .nil
  | _, _, n + 1, .cons r t => .cons r (RpAll.take n t)
theorem RpAll.drop : ∀ {vs : List V} {ds : List PyData} (n : Nat), RpAll K G vs ds → RpAll K G (vs.drop n) (ds.drop n)
  | _, _, 0, r => r
  | _, _, _ + 1, .nil => .nil
  | _, _, n + 1, .cons _ t => RpAll.drop n t
theorem RpAll.eraseIdx : ∀ {vs : List V} {ds : List PyData} (n : Nat), RpAll K G vs ds → RpAll K G (vs.eraseIdx n) (ds.eraseIdx n)
  | _, _, _, .nil => .nil
  | _, _, 0, .cons _ t => t
  | _, _, n + 1, .cons r t => .cons r (RpAll.eraseIdx n t)
theorem RpAll.reverse {vs : List V} {ds : List PyData} (h : RpAll K G vs ds) : RpAll K G vs.reverse ds.reverse := by
  have go : ∀ {vs : List V} {ds : List PyData}, RpAll K G vs ds → ∀ {ws : List V} {es : List PyData}, RpAll K G ws es → RpAll K G (vs.reverse ++ ws) (ds.reverse ++ es) := by
    intro vs
    induction vs with
    | nil => intro ds h ws es k; cases h; exact k
    | cons v vs ih =>
      intro ds h ws es k
      cases h with
      | cons h1 h2 =>
        rw [List.reverse_cons, List.reverse_cons, List.append_assoc, List.append_assoc]
        exact ih h2 (.cons h1 k)
  have z := go h .nil
  rwa [List.append_nil, List.append_nil] at z
mutual
/-- without dicts it is the kit's Dp -/
theorem Rp.dp : ∀ {v : V} (d : PyData), d.canLay0 = true → Rp K G v d → Dp K G v d
  | _, .none, _, .non => .non
  | _, .bool _, _, .bl b => .bl b
  | _, .int _, _, .int i => .int i
  | _, .str _, _, .str x => .str x
  | _, .list ds, c, .lst h a => .lst (.of h) (RpAll.dp ds (by simpa [PyData.canLay0] using c) a)
  | _, .tuple ds, c, .tup h a => .tup (.of h) (RpAll.dp ds (by simpa [PyData.canLay0] using c) a)
  | _, .dict _, c, _ => by simp [PyData.canLay0] at c
theorem RpAll.dp : ∀ {vs : List V} (ds : List PyData), PyData.canLayAll0 ds = true → RpAll K G vs ds → DpAll K G vs ds
  | _, [], _, .nil => .nil
  | _, d :: ds, c, .cons h t => by
    have c' : d.canLay0 = true ∧ PyData.canLayAll0 ds = true := by simpa [PyData.canLayAll0] using c
    exact .cons (Rp.dp d c'.1 h) (RpAll.dp ds c'.2 t)
end
end
structure Res where
  rep : PySem.W.Frag → Hp → Hp → V → PyData → (Addr → Prop) → Prop
  frame : ∀ {K : PySem.W.Frag} {G H G' H' : Hp} {v : V} {d : PyData} {fp : Addr → Prop}, rep K G H v d fp → Same G G' → (∀ a, fp a → H' a = H a ∧ G' a = G a) → rep K G' H' v d fp
  own : ∀ {K : PySem.W.Frag} {G H : Hp} {v : V} {d : PyData} {fp : Addr → Prop}, rep K G H v d fp → ∀ a, fp a → G a = none ∧ ∃ o, H a = some o
structure Cc where
  K : PySem.W.Frag
  mg : Str → Option Value
  rho : Nat → Res
/-- an exception of the class at A, that is held -/
def XO (A p : Addr) : HO := .ext fun h => ∃ (oe : Obj) (vs : Array Value), h.get? p = some oe ∧ Zc (.ref A) none oe ∧ oe.data = .fields vs
structure WS where
  G : Hp
  H : Hp
  fp : Nat → Addr → Prop
mutual
/-- a thing at v, its own at the addresses told -/
inductive TOk (C : Cc) (G H : Hp) : Tr → V → List Addr → Prop
  | fr {v : V} {d : PyData} : Rp C.K G v d → TOk C G H (.fr d) v []
  | lst {ts : List Tr} {p : Addr} {xs : List V} {as : List Addr} : G p = none → H p = some (.lst xs) → TAll C G H ts xs as → TOk C G H (.nd .lst ts) (.ref p) (p :: as)
  | tup {ts : List Tr} {p : Addr} {xs : List V} {as : List Addr} : G p = none → H p = some (.tup xs) → TAll C G H ts xs as → TOk C G H (.nd .tup ts) (.ref p) (p :: as)
  | ins {c : Str} {fs : List Str} {ts : List Tr} {p dx A : Addr} {xs : List V} {as : List Addr} : C.mg c = some (.ref A) → G p = none → H p = some (.ins A dx (fs.zip xs)) → fs.length = xs.length → G dx = none → H dx = some (.own p) → TAll C G H ts xs as → TOk C G H (.nd (.ins c fs) ts) (.ref p) (p :: dx :: as)
inductive TAll (C : Cc) (G H : Hp) : List Tr → List V → List Addr → Prop
  | nil : TAll C G H [] [] []
  | cons {t : Tr} {x : V} {as bs : List Addr} {ts : List Tr} {xs : List V} : TOk C G H t x as → TAll C G H ts xs bs → TAll C G H (t :: ts) (x :: xs) (as ++ bs)
end
section
variable {C : Cc} {G H G' H' : Hp}
mutual
theorem TOk.own : ∀ {t : Tr} {v : V} {as : List Addr}, TOk C G H t v as → ∀ a ∈ as, G a = none ∧ ∃ o, H a = some o
  | _, _, _, .fr _, a, ha => by cases ha
  | _, _, _, .lst h1 h2 t, a, ha => by
    rcases List.mem_cons.mp ha with rfl | ha
    · exact ⟨h1, _, h2⟩
    · exact TAll.own t a ha
  | _, _, _, .tup h1 h2 t, a, ha => by
    rcases List.mem_cons.mp ha with rfl | ha
    · exact ⟨h1, _, h2⟩
    · exact TAll.own t a ha
  | _, _, _, .ins _ h1 h2 _ h4 h5 t, a, ha => by
    rcases List.mem_cons.mp ha with rfl | ha
    · exact ⟨h1, _, h2⟩
    · rcases List.mem_cons.mp ha with rfl | ha
      · exact ⟨h4, _, h5⟩
      · exact TAll.own t a ha
theorem TAll.own : ∀ {ts : List Tr} {xs : List V} {as : List Addr}, TAll C G H ts xs as → ∀ a ∈ as, G a = none ∧ ∃ o, H a = some o
  | _, _, _, .nil, a, ha => by cases ha
  | _, _, _, .cons h t, a, ha => by
    rcases List.mem_append.mp ha with ha | ha
    · exact TOk.own h a ha
    · exact TAll.own t a ha
end
mutual
theorem TOk.mono (e : Same G G') : ∀ {t : Tr} {v : V} {as : List Addr}, TOk C G H t v as → (∀ a ∈ as, H' a = H a ∧ G' a = G a) → TOk C G' H' t v as
  | _, _, _, .fr r, _ => .fr (r.mono e)
  | _, _, _, .lst h1 h2 t, k => by
    obtain ⟨k1, k2⟩ := k _ List.mem_cons_self
    exact .lst (k2.trans h1) (k1.trans h2) (TAll.mono e t fun a ha => k a (List.mem_cons_of_mem _ ha))
  | _, _, _, .tup h1 h2 t, k => by
    obtain ⟨k1, k2⟩ := k _ List.mem_cons_self
    exact .tup (k2.trans h1) (k1.trans h2) (TAll.mono e t fun a ha => k a (List.mem_cons_of_mem _ ha))
  | _, _, _, .ins h0 h1 h2 h3 h4 h5 t, k => by
    obtain ⟨k1, k2⟩ := k _ List.mem_cons_self
    obtain ⟨k3, k4⟩ := k _ (List.mem_cons_of_mem _ List.mem_cons_self)
    exact .ins h0 (k2.trans h1) (k1.trans h2) h3 (k4.trans h4) (k3.trans h5) (TAll.mono e t fun a ha => k a (List.mem_cons_of_mem _ (List.mem_cons_of_mem _ ha)))
theorem TAll.mono (e : Same G G') : ∀ {ts : List Tr} {xs : List V} {as : List Addr}, TAll C G H ts xs as → (∀ a ∈ as, H' a = H a ∧ G' a = G a) → TAll C G' H' ts xs as
  | _, _, _, .nil, _ => .nil
  | _, _, _, .cons h t, k => .cons (TOk.mono e h fun a ha => k a (List.mem_append_left _ ha)) (TAll.mono e t fun a ha => k a (List.mem_append_right _ ha))
end
mutual
/-- all its own frozen -/
theorem TOk.rp (e : Same G G') : ∀ {t : Tr} {v : V} {as : List Addr} {d : PyData}, TOk C G H t v as → (∀ a ∈ as, G' a = H a) → t.dat = some d → Rp C.K G' v d
  | _, _, _, _, .fr r, _, h => by cases h; exact r.mono e
  | .nd .lst ts, _, _, d, .lst h1 h2 t, k, h => by
    cases q : Tr.dats ts with
    | none => rw [Tr.dat, q] at h; cases h
    | some ds =>
      rw [Tr.dat, q] at h
      cases h
      exact .lst ((k _ List.mem_cons_self).trans h2) (TAll.rp e t (fun a ha => k a (List.mem_cons_of_mem _ ha)) q)
  | .nd .tup ts, _, _, d, .tup h1 h2 t, k, h => by
    cases q : Tr.dats ts with
    | none => rw [Tr.dat, q] at h; cases h
    | some ds =>
      rw [Tr.dat, q] at h
      cases h
      exact .tup ((k _ List.mem_cons_self).trans h2) (TAll.rp e t (fun a ha => k a (List.mem_cons_of_mem _ ha)) q)
  | .nd (.ins _ _) _, _, _, _, _, _, h => by rw [Tr.dat] at h; cases h
theorem TAll.rp (e : Same G G') : ∀ {ts : List Tr} {xs : List V} {as : List Addr} {ds : List PyData}, TAll C G H ts xs as → (∀ a ∈ as, G' a = H a) → Tr.dats ts = some ds → RpAll C.K G' xs ds
  | _, _, _, _, .nil, _, h => by cases h; exact .nil
  | t :: ts, _, _, ds, .cons r u, k, h => by
    rw [Tr.dats] at h
    cases q : t.dat with
    | none => rw [q] at h; cases h
    | some d =>
      cases q2 : Tr.dats ts with
      | none => rw [q, q2] at h; cases h
      | some es =>
        rw [q, q2] at h
        cases h
        exact .cons (TOk.rp e r (fun a ha => k a (List.mem_append_left _ ha)) q) (TAll.rp e u (fun a ha => k a (List.mem_append_right _ ha)) q2)
end
end
def BOk (C : Cc) (G H : Hp) : B → V → (Addr → Prop) → Prop
  | .fr d, v, fp => Rp C.K G v d ∧ ∀ a, ¬ fp a
  | .ow ds, v, fp => ∃ p xs, v = .ref p ∧ G p = none ∧ H p = some (.lst xs) ∧ RpAll C.K G xs ds ∧ ∀ a, fp a ↔ a = p
  | .od ds, v, fp => ∃ p ks, v = .ref p ∧ G p = none ∧ H p = some (.dK ks) ∧ ks.map (fun q => kP q.1) = ds.map (·.1) ∧ RpAll C.K G (ks.map (·.2)) (ds.map (·.2)) ∧ ∀ a, fp a ↔ a = p
  | .ex c, v, fp => (∃ p A, v = .ref p ∧ C.mg c = some (.ref A) ∧ G p = some (XO A p)) ∧ ∀ a, ¬ fp a
  | .rs k d, v, fp => (C.rho k).rep C.K G H v d fp
  | .sc ns, v, fp => (∃ p, v = .ref p ∧ SqL C.K G p (ns.map V.int)) ∧ ∀ a, ¬ fp a
  | .tr t, v, fp => ∃ as, TOk C G H t v as ∧ as.Nodup ∧ ∀ a, fp a ↔ a ∈ as
section
variable {C : Cc} {G H G' H' : Hp} {b : B} {v : V} {fp : Addr → Prop}
theorem BOk.own (h : BOk C G H b v fp) : ∀ a, fp a → G a = none ∧ ∃ o, H a = some o := by
  cases b with
  | fr d => exact fun a q => absurd q (h.2 a)
  | ow ds =>
    obtain ⟨p, xs, _, h1, h2, _, h3⟩ := h
    intro a q
    obtain rfl := (h3 a).mp q
    exact ⟨h1, _, h2⟩
  | od ds =>
    obtain ⟨p, xs, _, h1, h2, _, _, h3⟩ := h
    intro a q
    obtain rfl := (h3 a).mp q
    exact ⟨h1, _, h2⟩
  | ex c => exact fun a q => absurd q (h.2 a)
  | rs k d => exact (C.rho k).own h
  | sc ns => exact fun a q => absurd q (h.2 a)
  | tr t =>
    obtain ⟨as, h1, _, h2⟩ := h
    exact fun a q => h1.own a ((h2 a).mp q)
theorem BOk.mono (h : BOk C G H b v fp) (e : Same G G') (k : ∀ a, fp a → H' a = H a ∧ G' a = G a) : BOk C G' H' b v fp := by
  cases b with
  | fr d => exact ⟨h.1.mono e, h.2⟩
  | ow ds =>
    obtain ⟨p, xs, e0, h1, h2, h4, h3⟩ := h
    have q := k p ((h3 p).mpr rfl)
    exact ⟨p, xs, e0, q.2.trans h1, q.1.trans h2, h4.mono e, h3⟩
  | od ds =>
    obtain ⟨p, xs, e0, h1, h2, h4, h5, h3⟩ := h
    have q := k p ((h3 p).mpr rfl)
    exact ⟨p, xs, e0, q.2.trans h1, q.1.trans h2, h4, h5.mono e, h3⟩
  | ex c =>
    obtain ⟨⟨p, A, h1, h2, h3⟩, h4⟩ := h
    exact ⟨⟨p, A, h1, h2, e _ _ h3⟩, h4⟩
  | rs n d => exact (C.rho n).frame h e k
  | sc ns =>
    obtain ⟨⟨p, h1, h2⟩, h4⟩ := h
    exact ⟨⟨p, h1, e.seq h2⟩, h4⟩
  | tr t =>
    obtain ⟨as, h1, h2, h3⟩ := h
    exact ⟨as, h1.mono e fun a ha => k a ((h3 a).mpr ha), h2, h3⟩
end
/-- read in H, its items in G -/
def Rq (K : PySem.W.Frag) (G H : Hp) (v : V) : PyData → Prop
  | .none => v = .non
  | .bool b => v = .bl b
  | .int i => v = .int i
  | .str x => v = .str x
  | .list ds => ∃ a xs, v = .ref a ∧ H a = some (.lst xs) ∧ RpAll K G xs ds
  | .tuple ds => ∃ a xs, v = .ref a ∧ G a = some (.tup xs) ∧ RpAll K G xs ds
  | .dict ds => ∃ a ks, v = .ref a ∧ H a = some (.dK ks) ∧ ks.map (fun p => kP p.1) = ds.map (·.1) ∧ RpAll K G (ks.map (·.2)) (ds.map (·.2))
section
variable {K : PySem.W.Frag} {G H : Hp} {v : V} {d : PyData}
theorem Rq.rp (h : Rq K G H v d) (s : Same G H) : Rp K H v d := by
  cases d with
  | none => cases h; exact .non
  | bool b => cases h; exact .bl b
  | int i => cases h; exact .int i
  | str x => cases h; exact .str x
  | list ds =>
    obtain ⟨a, xs, rfl, h1, h2⟩ := h
    exact .lst h1 (h2.mono s)
  | tuple ds =>
    obtain ⟨a, xs, rfl, h1, h2⟩ := h
    exact .tup (s _ _ h1) (h2.mono s)
  | dict ds =>
    obtain ⟨a, xs, rfl, h1, h2, h3⟩ := h
    exact .dic h1 h2 (h3.mono s)
theorem Rp.rq (h : Rp K G v d) (s : Same G H) : Rq K G H v d := by
  cases h with
  | non => rfl
  | bl b => rfl
  | int i => rfl
  | str x => rfl
  | lst h1 h2 => exact ⟨_, _, rfl, s _ _ h1, h2⟩
  | tup h1 h2 => exact ⟨_, _, rfl, h1, h2⟩
  | dic h1 h2 h3 => exact ⟨_, _, rfl, s _ _ h1, h2, h3⟩
theorem BOk.dat {C : Cc} {b : B} {fp : Addr → Prop} (h : BOk C G H b v fp) (s : Same G H) (hd : b.dat = some d) : Rq C.K G H v d := by
  cases b with
  | fr d' => cases hd; exact h.1.rq s
  | ow ds =>
    cases hd
    obtain ⟨p, xs, rfl, h1, h2, h4, h3⟩ := h
    exact ⟨p, xs, rfl, h2, h4⟩
  | od ds =>
    cases hd
    obtain ⟨p, xs, rfl, h1, h2, h4, h5, h3⟩ := h
    exact ⟨p, xs, rfl, h2, h4, h5⟩
  | ex c => cases hd
  | rs n d' => cases hd
  | sc ns => cases hd
  | tr t => cases hd
end
structure Mt (C : Cc) (π : List (Nat × V)) (e : Env) (σ : St) (w : WS) : Prop where
  len : e.length = σ.length
  sub : Same w.G w.H
  bok : ∀ i b, at? e i = some b → ∃ v, σ[i]? = some (some v) ∧ BOk C w.G w.H b v (w.fp i)
  non : ∀ i, at? e i = none → ∀ a, ¬ w.fp i a
  dis : ∀ i j a, w.fp i a → w.fp j a → i = j
  pin : ∀ p ∈ π, σ[p.1]? = some (some p.2)
structure Frm (w w' : WS) : Prop where
  g : Same w.G w'.G
  k : ∀ a o, w.H a = some o → (∀ i, ¬ w.fp i a) → w'.H a = some o ∧ w'.G a = w.G a ∧ ∀ i, ¬ w'.fp i a
  t : ∀ a, w'.H a = none → w.H a = none
theorem Frm.refl (w : WS) : Frm w w := ⟨Same.refl _, fun _ _ h n => ⟨h, rfl, n⟩, fun _ h => h⟩
theorem Frm.trans {w w1 w2 : WS} (a : Frm w w1) (b : Frm w1 w2) : Frm w w2 := by
  refine ⟨a.g.trans b.g, fun p o h n => ?_, fun p h => a.t p (b.t p h)⟩
  obtain ⟨h1, h2, h3⟩ := a.k p o h n
  obtain ⟨k1, k2, k3⟩ := b.k p o h1 h3
  exact ⟨k1, k2.trans h2, k3⟩
/-- what is new, or a name's own -/
theorem Frm.back {w w1 : WS} (f : Frm w w1) {a : Addr} (h : w1.H a = none ∨ ∃ i, w1.fp i a) : w.H a = none ∨ ∃ i, w.fp i a := by
  cases q : w.H a with
  | none => exact .inl rfl
  | some o =>
    by_cases hn : ∃ i, w.fp i a
    · exact .inr hn
    · obtain ⟨h1, h2, h3⟩ := f.k a o q fun i z => hn ⟨i, z⟩
      rcases h with h | ⟨i, h⟩
      · rw [h] at h1; cases h1
      · exact absurd h (h3 i)
theorem Mt.own {C : Cc} {π : List (Nat × V)} {e : Env} {σ : St} {w : WS} (m : Mt C π e σ w) {i : Nat} {a : Addr} (h : w.fp i a) : w.G a = none ∧ ∃ o, w.H a = some o := by
  cases q : at? e i with
  | none => exact absurd h (m.non i q a)
  | some b =>
    obtain ⟨v, _, k⟩ := m.bok i b q
    exact k.own a h
def OOk (C : Cc) (σ : St) (w w' : WS) : O → V → Prop
  | .s i, v => σ[i]? = some (some v)
  | .b b, v => ∃ fp : Addr → Prop, BOk C w'.G w'.H b v fp ∧ ∀ a, fp a → (w.H a = none ∨ ∃ i, w.fp i a) ∧ ∀ i, ¬ w'.fp i a
section
variable {C : Cc} {σ : St} {w w1 w2 w' : WS} {o : O} {v : V}
theorem OOk.step (h : OOk C σ w w1 o v) (f : Frm w1 w2) : OOk C σ w w2 o v := by
  cases o with
  | s i => exact h
  | b b =>
    obtain ⟨fp, h1, h2⟩ := h
    refine ⟨fp, h1.mono f.g fun a ha => ?_, fun a ha => ?_⟩
    · obtain ⟨hg, o, ho⟩ := h1.own a ha
      obtain ⟨k1, k2, k3⟩ := f.k a o ho (h2 a ha).2
      exact ⟨k1.trans ho.symm, k2⟩
    · obtain ⟨hg, o, ho⟩ := h1.own a ha
      exact ⟨(h2 a ha).1, (f.k a o ho (h2 a ha).2).2.2⟩
theorem OOk.base (h : OOk C σ w1 w' o v) (f : Frm w w1) : OOk C σ w w' o v := by
  cases o with
  | s i => exact h
  | b b =>
    obtain ⟨fp, h1, h2⟩ := h
    exact ⟨fp, h1, fun a ha => ⟨f.back (h2 a ha).1, (h2 a ha).2⟩⟩
theorem OOk.fr {d : PyData} (h : Rp C.K w'.G v d) : OOk C σ w w' (.b (.fr d)) v := ⟨fun _ => False, ⟨h, fun _ z => z⟩, fun _ z => z.elim⟩
end
/-- what follows a part -/
def Post {α β : Type} (C : Cc) (W : WX) (π : List (Nat × V)) (σ : St) (w : WS) (r : Option (Out α)) (rel : WS → α → β → Prop) (Q : β → Hp → Prop) : Prop := match r with
  | none => False
  | some (.ok a e) => ∀ b w', Mt C π e σ w' → Frm w w' → rel w' a b → Q b w'.H
  | some (.ex c e) => ∀ w' A, C.mg c = some (.ref A) → Mt C π e σ w' → Frm w w' → W (.ref A) none σ w'.H
section
variable {C : Cc} {W : WX} {π : List (Nat × V)} {σ : St} {w w1 : WS} {α β α' β' : Type} {r : Option (Out α)} {rel : WS → α → β → Prop} {Q : β → Hp → Prop} {rel' : WS → α' → β' → Prop} {Q' : β' → Hp → Prop} {k : α → Env → Option (Out α')}
theorem Post.from (h : Post C W π σ w r rel Q) (f : Frm w w1) : Post C W π σ w1 r rel Q := by
  cases r with
  | none => exact h
  | some x =>
    cases x with
    | ok a e => exact fun b w' m f' q => h b w' m (f.trans f') q
    | ex c e => exact fun w' A hA m f' => h w' A hA m (f.trans f')
theorem Post.reb {r : Option (Out O)} {Q : VK} (f : Frm w w1) (h : Post C W π σ w r (OOk C σ w) Q) : Post C W π σ w1 r (OOk C σ w1) Q := by
  cases r with
  | none => exact h
  | some x =>
    cases x with
    | ok a e => exact fun b w' m f' q => h b w' m (f.trans f') (q.base f)
    | ex c e => exact fun w' A hA m f' => h w' A hA m (f.trans f')
theorem Post.bnd (h : Post C W π σ w (bnd r k) rel' Q') (hk : ∀ a e b w1, Mt C π e σ w1 → Frm w w1 → rel w1 a b → Post C W π σ w (k a e) rel' Q' → Q b w1.H) : Post C W π σ w r rel Q := by
  cases r with
  | none => exact h
  | some x =>
    cases x with
    | ok a e => exact fun b w' m f q => hk a e b w' m f q h
    | ex c e => exact h
end
/-- f tells the expression of the reading t -/
def SE (C : Cc) (W : WX) (t : TE) (f : FE) : Prop := ∀ π env σ w Q, Mt C π env σ w → Post C W π σ w (f env) (OOk C σ w) Q → t σ w.H Q
def SD (C : Cc) (W : WX) (t : TA) (f : FD) : Prop := ∀ π env σ w Q, Mt C π env σ w → Post C W π σ w (f env) (fun w' ds vs => RpAll C.K w'.G vs ds) Q → t σ w.H Q
def SA (C : Cc) (W : WX) (t : TA) (f : FA) : Prop := ∀ π env σ w Q, Mt C π env σ w → Post C W π σ w (f env) (fun w' os vs => Paired (OOk C σ w w') os vs) Q → t σ w.H Q
def ST (C : Cc) (W : WX) (t : TT) (f : FT) : Prop := ∀ π env σ w Q, Mt C π env σ w → Post C W π σ w (f env) (fun _ b b' => b = b') Q → t σ w.H Q
def PostS (C : Cc) (W : WX) (π : List (Nat × V)) (w : WS) (r : Option SO) (D : Ends) : Prop := match r with
  | none => False
  | some (.nx e) => ∀ σ' w', Mt C π e σ' w' → Frm w w' → D.nx σ' w'.H
  | some (.rt b e) => ∀ v σ' w', Mt C π e σ' w' → Frm w w' → OOk C σ' w w' (.b b) v → D.rt v w'.H
  | some (.bk e) => ∀ σ' w', Mt C π e σ' w' → Frm w w' → D.bk σ' w'.H
  | some (.ct e) => ∀ σ' w', Mt C π e σ' w' → Frm w w' → D.ct σ' w'.H
  | some (.ex c e) => ∀ σ' w' A, C.mg c = some (.ref A) → Mt C π e σ' w' → Frm w w' → W (.ref A) none σ' w'.H
def SS (C : Cc) (W : WX) (pn : List Nat) (t : TS) (g : FS) : Prop := ∀ π env σ w D, (∀ p ∈ π, p.1 ∈ pn) → Mt C π env σ w → PostS C W π w (g env) D → t D σ w.H
section
variable {C : Cc} {W : WX} {π : List (Nat × V)} {σ : St} {w w1 : WS} {α β : Type} {r : Option (Out α)} {rel : WS → α → β → Prop} {Q : β → Hp → Prop} {D : Ends} {k : α → Env → Option SO}
theorem PostS.from {r : Option SO} (h : PostS C W π w r D) (f : Frm w w1) : PostS C W π w1 r D := by
  cases r with
  | none => exact h
  | some x =>
    cases x with
    | nx e => exact fun σ' w' m f' => h σ' w' m (f.trans f')
    | rt b e => exact fun v σ' w' m f' q => h v σ' w' m (f.trans f') (q.base f)
    | bk e => exact fun σ' w' m f' => h σ' w' m (f.trans f')
    | ct e => exact fun σ' w' m f' => h σ' w' m (f.trans f')
    | ex c e => exact fun σ' w' A hA m f' => h σ' w' A hA m (f.trans f')
theorem PostS.bnd (h : PostS C W π w (bndS r k) D) (hk : ∀ a e b w1, Mt C π e σ w1 → Frm w w1 → rel w1 a b → PostS C W π w (k a e) D → Q b w1.H) : Post C W π σ w r rel Q := by
  cases r with
  | none => exact h.elim
  | some x =>
    cases x with
    | ok a e => exact fun b w' m f q => hk a e b w' m f q h
    | ex c e => exact fun w' A hA m f => h σ w' A hA m f
end
section
variable {C : Cc} {π : List (Nat × V)} {e : Env} {σ : St} {w w0 : WS} {p : Addr} {o : HO}
/-- a new object -/
def WS.new (w : WS) (p : Addr) (o : HO) : WS := { w with H := upd w.H p o }
theorem Mt.new (m : Mt C π e σ w) (hp : w.H p = none) : Mt C π e σ (w.new p o) := by
  have hG : w.G p = none := m.sub.free hp
  refine ⟨m.len, fun a u q => ?_, fun i b q => ?_, m.non, m.dis, m.pin⟩
  · show upd w.H p o a = some u
    rw [upd_ne (ne_of_none q hG)]
    exact m.sub a u q
  · obtain ⟨v, h1, h2⟩ := m.bok i b q
    refine ⟨v, h1, h2.mono (Same.refl _) fun a ha => ⟨?_, rfl⟩⟩
    obtain ⟨_, u, hu⟩ := h2.own a ha
    exact upd_ne (ne_of_none hu hp)
theorem Frm.new (hp : w.H p = none) : Frm w (w.new p o) := by
  refine ⟨Same.refl _, fun a u h n => ⟨?_, rfl, n⟩, fun a h => ?_⟩
  · show upd w.H p o a = some u
    rw [upd_ne (ne_of_none h hp)]
    exact h
  · by_cases z : a = p
    · rw [z]; exact hp
    · have h' : upd w.H p o a = none := h
      rw [upd_ne z] at h'
      exact h'
/-- a thing at p, not owned by a name, frozen -/
def WS.frz (w : WS) (p : Addr) (o : HO) : WS := { w with G := upd w.G p o }
theorem Mt.frz (m : Mt C π e σ w) (hp : w.H p = some o) (hG : w.G p = none) (hn : ∀ i, ¬ w.fp i p) : Mt C π e σ (w.frz p o) := by
  have sG : Same w.G (upd w.G p o) := fun a u q => by rw [upd_ne (ne_of_none q hG)]; exact q
  refine ⟨m.len, fun a u q => ?_, fun i b q => ?_, m.non, m.dis, m.pin⟩
  · have q' : upd w.G p o a = some u := q
    by_cases z : a = p
    · subst z
      rw [upd_same] at q'
      cases q'
      exact hp
    · rw [upd_ne z] at q'
      exact m.sub a u q'
  · obtain ⟨v, h1, h2⟩ := m.bok i b q
    refine ⟨v, h1, h2.mono sG fun a ha => ⟨rfl, upd_ne fun z => hn i (by rw [← z]; exact ha)⟩⟩
theorem Frm.frz (f : Frm w0 w) (hp : w0.H p = none ∨ ∃ i, w0.fp i p) (hG : w.G p = none) : Frm w0 (w.frz p o) := by
  refine ⟨fun a u q => ?_, fun a u h n => ?_, f.t⟩
  · show upd w.G p o a = some u
    rw [upd_ne (ne_of_none (f.g a u q) hG)]
    exact f.g a u q
  · obtain ⟨h1, h2, h3⟩ := f.k a u h n
    refine ⟨h1, ?_, h3⟩
    show upd w.G p o a = w0.G a
    have ne : a ≠ p := fun z => by
      subst z
      rcases hp with hp | ⟨i, hp⟩
      · rw [hp] at h; cases h
      · exact n i hp
    rw [upd_ne ne]
    exact h2
/-- the thing at p, owned by the name i, frozen -/
def WS.frzO (w : WS) (i : Nat) (p : Addr) (o : HO) : WS := { w with G := upd w.G p o, fp := fun j a => w.fp j a ∧ j ≠ i }
theorem at_set_same {e : Env} {i : Nat} {x : Option B} {b : B} (h : at? e i = some b) : at? (e.set i x) i = x := by
  unfold at? at h ⊢
  have hi : i < e.length := by
    cases q : e[i]? with
    | none => rw [q] at h; cases h
    | some y => exact (List.getElem?_eq_some_iff.mp q).1
  rw [List.getElem?_set_self hi]
theorem at_set_lt {e : Env} {i : Nat} {x : Option B} (hi : i < e.length) : at? (e.set i x) i = x := by
  unfold at?
  rw [List.getElem?_set_self hi]
theorem at_set_ne {e : Env} {i j : Nat} {x : Option B} (h : i ≠ j) : at? (e.set i x) j = at? e j := by
  unfold at?
  rw [List.getElem?_set_ne h]
theorem Mt.frzO {i : Nat} {b b' : B} {v : V} (m : Mt C π e σ w) (hb : at? e i = some b) (hv : σ[i]? = some (some v)) (hp : w.H p = some o) (hG : w.G p = none) (hf : ∀ a, w.fp i a ↔ a = p) (hb' : BOk C (upd w.G p o) w.H b' v fun _ => False) :
    Mt C π (e.set i (some b')) σ (w.frzO i p o) := by
  have sG : Same w.G (upd w.G p o) := fun a u q => by rw [upd_ne (ne_of_none q hG)]; exact q
  refine ⟨by rw [List.length_set]; exact m.len, fun a u q => ?_, fun j c q => ?_, fun j q a z => ?_, fun j k a h1 h2 => m.dis j k a h1.1 h2.1, m.pin⟩
  · have q' : upd w.G p o a = some u := q
    by_cases z : a = p
    · subst z
      rw [upd_same] at q'
      cases q'
      exact hp
    · rw [upd_ne z] at q'
      exact m.sub a u q'
  · by_cases hj : i = j
    · subst hj
      rw [at_set_same hb] at q
      cases q
      refine ⟨v, hv, ?_⟩
      have e1 : (w.frzO i p o).fp i = fun _ => False := by
        funext a
        exact propext ⟨fun z => z.2 rfl, fun z => z.elim⟩
      rw [e1]
      exact hb'
    · rw [at_set_ne hj] at q
      obtain ⟨u, h1, h2⟩ := m.bok j c q
      have e1 : (w.frzO i p o).fp j = w.fp j := by
        funext a
        exact propext ⟨fun z => z.1, fun z => ⟨z, fun q => hj q.symm⟩⟩
      rw [e1]
      refine ⟨u, h1, h2.mono sG fun a ha => ⟨rfl, upd_ne fun z => ?_⟩⟩
      subst z
      exact hj (m.dis i j a ((hf a).mpr rfl) ha)
  · by_cases hj : i = j
    · subst hj
      exact z.2 rfl
    · rw [at_set_ne hj] at q
      exact m.non j q a z.1
theorem Frm.frzO {i : Nat} (f : Frm w0 w) (hG : w.G p = none) (hf : w.fp i p) : Frm w0 (w.frzO i p o) := by
  refine ⟨fun a u q => ?_, fun a u h n => ?_, f.t⟩
  · show upd w.G p o a = some u
    rw [upd_ne (ne_of_none (f.g a u q) hG)]
    exact f.g a u q
  · obtain ⟨h1, h2, h3⟩ := f.k a u h n
    refine ⟨h1, ?_, fun j z => h3 j z.1⟩
    show upd w.G p o a = w0.G a
    rw [upd_ne fun z => h3 i (by rw [z]; exact hf)]
    exact h2
end
/-- things at some addresses frozen; what i owns is owned no longer -/
def WS.frzT (w : WS) (i : Option Nat) (as : List Addr) : WS := { w with G := fun a => if a ∈ as then w.H a else w.G a, fp := fun j a => w.fp j a ∧ some j ≠ i }
section
variable {C : Cc} {π : List (Nat × V)} {e : Env} {σ : St} {w w0 : WS} {as : List Addr}
theorem frzT_same (i : Option Nat) (ho : ∀ a ∈ as, w.G a = none) : Same w.G (w.frzT i as).G := fun a o h => by
  show (if a ∈ as then w.H a else w.G a) = some o
  rw [if_neg fun z => by rw [ho a z] at h; cases h]
  exact h
theorem frzT_at (i : Option Nat) : ∀ a ∈ as, (w.frzT i as).G a = w.H a := fun a ha => if_pos ha
theorem frzT_out (i : Option Nat) {a : Addr} (h : a ∉ as) : (w.frzT i as).G a = w.G a := if_neg h
theorem frzT_sub (i : Option Nat) (m : Mt C π e σ w) : Same (w.frzT i as).G w.H := fun a o h => by
  have h' : (if a ∈ as then w.H a else w.G a) = some o := h
  split at h'
  · exact h'
  · exact m.sub a o h'
theorem Mt.frzTb (m : Mt C π e σ w) (ho : ∀ a ∈ as, w.G a = none) (hn : ∀ a ∈ as, ∀ i, ¬ w.fp i a) : Mt C π e σ (w.frzT none as) := by
  have e1 : ∀ j, (w.frzT none as).fp j = w.fp j := fun j => by funext a; exact propext ⟨fun z => z.1, fun z => ⟨z, nofun⟩⟩
  refine ⟨m.len, frzT_sub none m, fun j b q => ?_, fun j q a z => m.non j q a z.1, fun j k a x y => m.dis j k a x.1 y.1, m.pin⟩
  obtain ⟨v, h1, h2⟩ := m.bok j b q
  rw [e1]
  exact ⟨v, h1, h2.mono (frzT_same none ho) fun a ha => ⟨rfl, frzT_out none fun z => hn a z j ha⟩⟩
theorem Frm.frzTb (f : Frm w0 w) (hp : ∀ a ∈ as, w0.H a = none ∨ ∃ i, w0.fp i a) (ho : ∀ a ∈ as, w.G a = none) : Frm w0 (w.frzT none as) := by
  refine ⟨f.g.trans (frzT_same none ho), fun a o h n => ?_, f.t⟩
  obtain ⟨h1, h2, h3⟩ := f.k a o h n
  refine ⟨h1, (frzT_out none fun z => ?_).trans h2, fun i z => h3 i z.1⟩
  rcases hp a z with q | ⟨i, q⟩
  · rw [q] at h; cases h
  · exact n i q
theorem Mt.frzTs {i : Nat} {b b' : B} {v : V} (m : Mt C π e σ w) (hb : at? e i = some b) (hv : σ[i]? = some (some v)) (ho : ∀ a ∈ as, w.G a = none) (hf : ∀ a, w.fp i a ↔ a ∈ as) (hb' : BOk C (w.frzT (some i) as).G w.H b' v fun _ => False) :
    Mt C π (e.set i (some b')) σ (w.frzT (some i) as) := by
  refine ⟨by rw [List.length_set]; exact m.len, frzT_sub _ m, fun j c q => ?_, fun j q a z => ?_, fun j k a x y => m.dis j k a x.1 y.1, m.pin⟩
  · by_cases hj : i = j
    · subst hj
      rw [at_set_same hb] at q
      cases q
      have e1 : (w.frzT (some i) as).fp i = fun _ => False := by funext a; exact propext ⟨fun z => z.2 rfl, fun z => z.elim⟩
      rw [e1]
      exact ⟨v, hv, hb'⟩
    · rw [at_set_ne hj] at q
      obtain ⟨u, h1, h2⟩ := m.bok j c q
      have e1 : (w.frzT (some i) as).fp j = w.fp j := by funext a; exact propext ⟨fun z => z.1, fun z => ⟨z, fun q => hj (Option.some.inj q).symm⟩⟩
      rw [e1]
      exact ⟨u, h1, h2.mono (frzT_same _ ho) fun a ha => ⟨rfl, frzT_out _ fun z => hj (m.dis i j a ((hf a).mpr z) ha)⟩⟩
  · by_cases hj : i = j
    · subst hj
      exact z.2 rfl
    · rw [at_set_ne hj] at q
      exact m.non j q a z.1
theorem Frm.frzTs {i : Nat} (f : Frm w0 w) (ho : ∀ a ∈ as, w.G a = none) (hf : ∀ a, w.fp i a ↔ a ∈ as) : Frm w0 (w.frzT (some i) as) := by
  refine ⟨f.g.trans (frzT_same _ ho), fun a o h n => ?_, f.t⟩
  obtain ⟨h1, h2, h3⟩ := f.k a o h n
  exact ⟨h1, (frzT_out _ fun z => h3 i ((hf a).mpr z)).trans h2, fun j z => h3 j z.1⟩
end
theorem fz_sound {C : Cc} {π : List (Nat × V)} {e e' : Env} {σ : St} {w0 w : WS} {o : O} {v : V} {d : PyData} (m : Mt C π e σ w) (f : Frm w0 w) (h : OOk C σ w0 w o v) (hz : fz e o = some (d, e')) :
    ∃ w', Mt C π e' σ w' ∧ Frm w0 w' ∧ w'.H = w.H ∧ Rp C.K w'.G v d := by
  cases o with
  | s i =>
    have hv : σ[i]? = some (some v) := h
    unfold fz at hz
    cases q : at? e i with
    | none => simp [q] at hz
    | some b =>
      obtain ⟨u, h1, h2⟩ := m.bok i b q
      rw [hv] at h1
      cases h1
      cases b with
      | fr d' =>
        simp only [q] at hz
        cases hz
        exact ⟨w, m, f, rfl, h2.1⟩
      | ow ds =>
        simp only [q] at hz
        cases hz
        obtain ⟨p, xs, rfl, g1, g2, g4, g3⟩ := h2
        have sG : Same w.G (upd w.G p (.lst xs)) := fun a u q => by rw [upd_ne (ne_of_none q g1)]; exact q
        have r : Rp C.K (upd w.G p (.lst xs)) (.ref p) (.list ds) := .lst upd_same (g4.mono sG)
        exact ⟨w.frzO i p (.lst xs), m.frzO q hv g2 g1 g3 ⟨r, fun _ z => z⟩, f.frzO g1 ((g3 p).mpr rfl), rfl, r⟩
      | od ds =>
        simp only [q] at hz
        cases hz
        obtain ⟨p, xs, rfl, g1, g2, g4, g5, g3⟩ := h2
        have sG : Same w.G (upd w.G p (.dK xs)) := fun a u q => by rw [upd_ne (ne_of_none q g1)]; exact q
        have r : Rp C.K (upd w.G p (.dK xs)) (.ref p) (.dict ds) := .dic upd_same g4 (g5.mono sG)
        exact ⟨w.frzO i p (.dK xs), m.frzO q hv g2 g1 g3 ⟨r, fun _ z => z⟩, f.frzO g1 ((g3 p).mpr rfl), rfl, r⟩
      | ex c => simp [q] at hz
      | rs n d' => simp [q] at hz
      | sc ns => simp [q] at hz
      | tr t =>
        simp only [q] at hz
        cases qd : t.dat with
        | none => rw [qd] at hz; cases hz
        | some d' =>
          rw [qd] at hz
          cases hz
          obtain ⟨as, g1, g2, g3⟩ := h2
          have ho := fun a ha => (g1.own a ha).1
          have r := g1.rp (frzT_same (some i) ho) (frzT_at (some i)) qd
          exact ⟨w.frzT (some i) as, m.frzTs q hv ho g3 ⟨r, fun _ z => z⟩, f.frzTs ho g3, rfl, r⟩
  | b b =>
    obtain ⟨fp, h1, h2⟩ := h
    cases b with
    | fr d' =>
      cases hz
      exact ⟨w, m, f, rfl, h1.1⟩
    | ow ds =>
      cases hz
      obtain ⟨p, xs, rfl, g1, g2, g4, g3⟩ := h1
      have hp := h2 p ((g3 p).mpr rfl)
      have sG : Same w.G (upd w.G p (.lst xs)) := fun a u q => by rw [upd_ne (ne_of_none q g1)]; exact q
      exact ⟨w.frz p (.lst xs), m.frz g2 g1 hp.2, f.frz hp.1 g1, rfl, .lst upd_same (g4.mono sG)⟩
    | od ds =>
      cases hz
      obtain ⟨p, xs, rfl, g1, g2, g4, g5, g3⟩ := h1
      have hp := h2 p ((g3 p).mpr rfl)
      have sG : Same w.G (upd w.G p (.dK xs)) := fun a u q => by rw [upd_ne (ne_of_none q g1)]; exact q
      exact ⟨w.frz p (.dK xs), m.frz g2 g1 hp.2, f.frz hp.1 g1, rfl, .dic upd_same g4 (g5.mono sG)⟩
    | ex c => cases hz
    | rs n d' => cases hz
    | sc ns => cases hz
    | tr t =>
      have hz' : (t.dat.map fun d => (d, e)) = some (d, e') := hz
      cases qd : t.dat with
      | none => rw [qd] at hz'; cases hz'
      | some d' =>
        rw [qd] at hz'
        cases hz'
        obtain ⟨as, g1, g2, g3⟩ := h1
        have ho := fun a ha => (g1.own a ha).1
        exact ⟨w.frzT none as, m.frzTb ho fun a ha => (h2 a ((g3 a).mpr ha)).2, f.frzTb (fun a ha => (h2 a ((g3 a).mpr ha)).1) ho, rfl, g1.rp (frzT_same none ho) (frzT_at none) qd⟩
theorem fzB_sound {C : Cc} {π : List (Nat × V)} {e e' : Env} {σ : St} {w0 w : WS} {o : O} {v : V} {b : B} (m : Mt C π e σ w) (f : Frm w0 w) (h : OOk C σ w0 w o v) (hz : fzB e o = some (b, e')) :
    ∃ w', Mt C π e' σ w' ∧ Frm w0 w' ∧ w'.H = w.H ∧ BOk C w'.G w'.H b v (fun _ => False) := by
  have main : ∀ o', o' = o → (fz e o').map (fun p => (B.fr p.1, p.2)) = some (b, e') → ∃ w', Mt C π e' σ w' ∧ Frm w0 w' ∧ w'.H = w.H ∧ BOk C w'.G w'.H b v (fun _ => False) := by
    rintro o' rfl hq
    cases q : fz e o' with
    | none => rw [q] at hq; cases hq
    | some p =>
      rw [q] at hq
      cases hq
      obtain ⟨w', h1, h2, h3, h4⟩ := fz_sound (e' := p.2) m f h q
      exact ⟨w', h1, h2, h3, h4, fun _ z => z⟩
  cases o with
  | s i =>
    cases q : at? e i with
    | none =>
      simp only [fzB, q] at hz
      exact main _ rfl hz
    | some c =>
      simp only [fzB, q] at hz
      cases c with
      | ex c =>
        cases hz
        have hv : σ[i]? = some (some v) := h
        obtain ⟨u, h1, h2⟩ := m.bok i _ q
        rw [hv] at h1
        cases h1
        exact ⟨w, m, f, rfl, h2.1, fun _ z => z⟩
      | fr d => exact main _ rfl hz
      | ow d => exact main _ rfl hz
      | od d => exact main _ rfl hz
      | rs n d => exact main _ rfl hz
      | tr t => exact main _ rfl hz
      | sc ns =>
        cases hz
        have hv : σ[i]? = some (some v) := h
        obtain ⟨u, h1, h2⟩ := m.bok i _ q
        rw [hv] at h1
        cases h1
        exact ⟨w, m, f, rfl, h2.1, fun _ z => z⟩
  | b c =>
    cases c with
    | ex c =>
      cases hz
      obtain ⟨fp, h1, h2⟩ := h
      exact ⟨w, m, f, rfl, h1.1, fun _ z => z⟩
    | fr d => exact main _ rfl hz
    | ow d => exact main _ rfl hz
    | od d => exact main _ rfl hz
    | rs n d => exact main _ rfl hz
    | tr t => exact main _ rfl hz
    | sc ns =>
      cases hz
      obtain ⟨fp, h1, h2⟩ := h
      exact ⟨w, m, f, rfl, h1.1, fun _ z => z⟩
/-- what is read -/
theorem res_sound {C : Cc} {π : List (Nat × V)} {e : Env} {σ : St} {w0 w : WS} {o : O} {v : V} {d : PyData} (m : Mt C π e σ w) (h : OOk C σ w0 w o v) (hr : res e o = some d) : Rq C.K w.G w.H v d := by
  cases o with
  | s i =>
    have hv : σ[i]? = some (some v) := h
    cases q : at? e i with
    | none => simp [res, q] at hr
    | some b =>
      simp only [res, q, Option.bind_some] at hr
      obtain ⟨u, h1, h2⟩ := m.bok i _ q
      rw [hv] at h1
      cases h1
      exact h2.dat m.sub hr
  | b b =>
    obtain ⟨fp, h1, h2⟩ := h
    exact h1.dat m.sub hr
end VL
set_option maxRecDepth 100000
namespace VL
open PySem L2 PySem.Spec PyProof.Rows
/-- sys.modules stands in the ground -/
def SmB (base : Heap) : Prop := ∃ o, base.get? sysModules = some o
/-- FnOk where no guard stands around -/
structure FnG (P : Program) (w : World) (K : PySem.W.Frag) (mg : Str → Option Value) (base : Heap) (k : Nat) (f : Addr) (fd : FuncData) (ps : List Str) (sp : Sp) : Prop where
  cnt : ∀ vs H Q E, sp vs H Q E → vs.length = ps.length
  go : ∀ (A : Around) (out : List PySem.Env) (s : Shared) (H : Hp) (ar : Args) (us : List Value) (vs : List V) (Q : VK) (E : XK), Room k A → A.guards = some [] → SmB base → Env0 P w K mg base A out s H → BindsTo s fd ar (ps.zip us) → Vals vs us → sp vs H Q E →
    codeAny (model P w) A (.call (.ref f) ar) (CR (L2.CX P w) out P w H s Q E) s
section
variable {X : Cx} {k : Nat} {f : Addr} {fd : FuncData} {ps : List Str} {sp : Sp} {E : L2.St → XK} {x : Str} {p pos : Pos} {e : Expr} {es : List Expr} {t : TA}
theorem FnG.runs {pins : List (Addr × Obj)} {σ : L2.St} {H : Hp} {s : Shared} {Q : VK} {us : List Value} {vs : List V} (Fg : FnG X.prog X.w X.K X.mg X.base k f fd ps sp) (rm : Room k X.A) (gd : X.A.guards = some []) (sm : SmB X.base) (bn : Binds X.K fd ps [])
    (ps1 : PassesAt (L2.CX X.prog X.w) X σ (E σ)) (J : Inv X pins σ H s) (rv : Vals vs us) (hs : sp vs H Q (E σ)) : wpAny (model X.prog X.w) X.A (call (.ref f) us) (EP X pins σ Q) X.xe s := by
  have ln : us.length = ps.length := rv.length.symm.trans (Fg.cnt _ _ _ _ hs)
  have bb := bn s us J.kIn (by rw [List.append_nil, ln]); rw [List.append_nil] at bb
  refine wpAny_call (codeAny_mono (Fg.go X.A X.stack s H ⟨us, []⟩ us vs Q (E σ) rm gd sm J.env0 bb rv hs) fun res s2 ce => ?_)
  rcases res with er | fl
  · exact ps1 pins H s er s2 J ce
  · rcases fl with _ | _ | _ | u
    all_goals first | exact J.after ce | exact ce.elim
theorem pe_callG (Fg : FnG X.prog X.w X.K X.mg X.base k f fd ps sp) (rm : Room k X.A) (gd : X.A.guards = some []) (sm : SmB X.base) (gl : Gl X x) (mm : X.mg x = some (.ref f)) (kk : PySem.W.keepIn X.K (.ref f) = true) (bn : Binds X.K fd ps []) (px : ∀ σ, PassesAt (L2.CX X.prog X.w) X σ (E σ))
    (pa : PA X (e :: es) t) (db : (x == ("__debug__" : Str)) = false) (he : starEach (e :: es) X.env = (false, eval e X.env) :: starEach es X.env) (hp : (backTo pos (starEach es X.env)).any (·.1) = false) :
    PE X (.Call (.Name x p) (e :: es) [] pos) (tCallS sp E t) := by
  refine ⟨fun pins s σ H Q J h => wpAny_Call_Name_kw (ld_glob J gl mm (PySem.W.callWith_K (h₀ := X.base) J.ok.mod.kin kk (thn (pa.run pos pins s σ H _ J h) fun us s1 ⟨vs, H1, J1, r, q⟩ => ⟨J1.kIn, ?_⟩) he hp) db)⟩
  exact Fg.runs rm gd sm bn (px σ) J1 r q
end
section
variable {P : Program} {w : World} {K : PySem.W.Frag} {mg : Str → Option Value} {base : Heap} {x qual : Str} {params : Arguments} {body : List Stmt} {scope : Scope} {dvs : List V} {kws : List (Str × V)} {f : Addr} {fd : FuncData}
theorem fnG_of {N ps : List Str} {k : Nat} {sp : Sp} (F : FunD K x qual params body scope dvs kws f fd) (S : FnScope N ps scope) (cn : ∀ vs H Q E, sp vs H Q E → vs.length = ps.length)
    (hb : ∀ (cdv : Value) (A : Around) (out : List PySem.Env) (s : Shared) (H : Hp) (vs : List V) (Q : VK) (E : XK), Room k (A.deeper (envOfC qual scope s.heap.objs.size f cdv)) → A.guards = some [] → SmB base → sp vs H Q E →
      ∃ t, PSs (cxOf (L2.CX P w) P w K mg base N qual scope f cdv A out s H E) body t ∧ t { nx := fun _ H' => Q .non H', rt := Q } (L2.start N vs) H) : FnG P w K mg base (k + 1) f fd ps sp := by
  obtain ⟨oc, od, dV, kV, doc, pm, an, cdv, ct, osl, rfl, lk, hcd, _, _⟩ := F.ex
  refine ⟨cn, fun A out s H ar us vs Q E rm gd sm e0 bd rv hs => ?_⟩
  have kin : K.In s.heap := e0.mod.kin.keeps fun b o z => (e0.bs b o z).1
  have nol : s.heap.NoLimit := e0.mod.nolimit.keeps fun b o z => (e0.bs b o z).1
  have kinds : ∀ y ∈ ps.zip us, scope.names.lookup y.1 = some .local ∨ (scope.names.lookup y.1 = some .cell ∧ ((cellsFrom (s.heap.objs.size + 1) scope.names []).lookup y.1).isSome = true) := by
    rintro ⟨n, v⟩ hy
    exact (S.par n (List.of_mem_zip hy).1).elim .inl fun z => .inr ⟨z, PySem.W.cellsFrom_some _ _ _ (.inl z)⟩
  refine codeAny_call_function rm.depth (kin _ _ lk) rfl S.co S.gen rfl (PySem.W.codeRec_of kin hcd) (bd _ _ _ _ (wpAny_newFunctionEnv_cells S.kind kinds fun env he s1 ic => ?_))
  subst he
  refine ⟨nol.keeps ic.toInCall.keep, codeAny_func ?_⟩
  obtain ⟨t, pt, qt⟩ := hb cdv A out s H vs Q E (rm.deeper _) gd sm hs
  refine wpAny_mono (pt.run [] s1 (L2.start N vs) H _ (inv_start S rm.hd e0 (cn _ _ _ _ hs) rv ic) qt) (fun fl s' z => ?_) fun er s' z => z
  have done : ∀ {σ' : L2.St} {H' : Hp} {v : V} {u : Value}, Inv (cxOf (L2.CX P w) P w K mg base N qual scope f cdv A out s H E) [] σ' H' s' → RelV v u → Q v H' → CE out P w H s Q u s' :=
    fun {_ H' v _} J r2 q => ⟨v, H', J.os, J.bare, J.base, J.hok, r2, q⟩
  rcases fl with _ | _ | _ | u
  all_goals first
    | (obtain ⟨v, σ', H', J, r2, q⟩ := z; exact done J r2 q)
    | (obtain ⟨σ', H', J, q⟩ := z; exact done (v := V.non) (u := Value.none) J rfl q)
    | (obtain ⟨_, _, _, q⟩ := z; exact q.elim)
end
end VL
set_option maxRecDepth 100000
namespace VL
open PySem L2 PySem.Spec PyProof.Rows
theorem ends_of {P : Program} {w : World} {K : PySem.W.Frag} {mg mb : Str → Option Value} {k : Nat} {fa a : Addr} {fd : FuncData} {x : Str} {sp : Sp} {s₁ : Shared} {vs : List Value} {H : Hp}
    (kx : K.In s₁.heap) (gl : s₁.heap.Ns mainGlobals mg) (bl : s₁.heap.Ns builtinsNs mb) (bb : ∀ x : Str, x ≠ "__name__" → mb x = bootBuiltins x) (nl : s₁.heap.NoLimit) (smn : ∃ mm, s₁.heap.Ns sysModules mm) (gn : s₁.gens = #[])
    (ea : s₁.heap.get? a = some { cls := .type "list", data := .seq vs.toArray }) (rm : Room k callerA)
    (Fg : ∀ base : Heap, K.In base → base.Ns mainGlobals mg → FnG P w K mg base k fa fd [x] sp) (bd : ∀ (s : Shared) (u : Value), BindsTo s fd ⟨[u], []⟩ [(x, u)])
    (on : Only H) (ok : HOk P w H s₁.heap) (oa : ∀ b, H b ≠ none → b = a) (ka : H a ≠ none → K.lookup a = none) (hsp : sp [.ref a] H (fun v _ => v = .bl true) fun _ _ _ => False) :
    codeAny (model P w) callerA (.call (.ref fa) ⟨[.ref a], []⟩) (fun r s' => r = .ok (.ret (.bool true)) ∧ OldK s₁.heap s'.heap ∧ s'.os = s₁.os ∧ AllBare s'.gens) s₁ := by
  have hid : ∀ {b : Addr} {o : Obj}, s₁.heap.get? b = some o → H b = none → (hidT s₁.heap H).get? b = some o := hidT_get
  have notd : ∀ {b : Addr} {o : Obj} {es : Array DictEntry} {ep : Nat}, s₁.heap.get? b = some o → o.data = .dict es ep → H b = none := by
    intro b o es ep z dz
    by_cases q : H b = none
    · exact q
    · obtain rfl := oa b q
      rw [ea] at z
      obtain rfl := Option.some.inj z
      cases (show Data.seq vs.toArray _ = Data.dict es ep from dz)
  have nss : ∀ {b : Addr} {m : Str → Option Value}, s₁.heap.Ns b m → (hidT s₁.heap H).Ns b m := by
    rintro b m ⟨o, es, ep, z, dz, rr⟩
    exact ⟨o, es, ep, hid z (notd z dz), dz, rr⟩
  have kb : K.In (hidT s₁.heap H) := by
    intro b o z
    refine hid (kx b o z) ?_
    by_cases q : H b = none
    · exact q
    · obtain rfl := oa b q
      rw [ka q] at z
      cases z
  obtain ⟨mc, n1, n2⟩ := nl
  have md : Mod K mg (hidT s₁.heap H) := ⟨kb, nss gl, ⟨mb, nss bl, bb⟩, ⟨mc, nss n1, n2⟩⟩
  have en : Env0 P w K mg (hidT s₁.heap H) callerA [] s₁ H := ⟨rfl, md, fun b o z => of_hidT z, Nat.le_of_eq (hidT_size _ _), trivial, nofun, ok, .of_eq gn⟩
  refine codeAny_mono ((Fg _ kb (nss gl)).go callerA [] s₁ H ⟨[.ref a], []⟩ [.ref a] [.ref a] _ _ rm rfl (let ⟨mm, zz⟩ := smn; let ⟨o, _, _, z1, _⟩ := nss zz; ⟨o, z1⟩) en (bd s₁ (.ref a)) (.cons rfl .nil) hsp) ?_
  rintro (er | fl) s' hh
  · obtain ⟨_, _, _, _, _, _, _, _, _, _, _, _, z⟩ := hh
    exact z.elim
  · rcases fl with _ | _ | _ | u
    · exact False.elim hh
    · exact False.elim hh
    · exact False.elim hh
    obtain ⟨v, H', os, br, un, ok', rr, qq⟩ := hh
    obtain rfl : v = .bl true := qq
    obtain rfl : u = Value.bool true := rr
    refine ⟨rfl, OldK.of_keep fun b o z => ?_, os, br⟩
    rcases on b with q | ⟨ob, xs, q⟩
    · exact un.keep b o z q nofun nofun
    · obtain ⟨z1, _⟩ := ok b _ q
      obtain ⟨z2, _⟩ := ok' b _ (un.frzs b ob _ q)
      rw [z] at z1
      cases z1
      exact z2
theorem law_ends {P : Program} {w : World} {K : PySem.W.Frag} {mg mb : Str → Option Value} {k : Nat} {fa a : Addr} {fd : FuncData} {x : Str} {sp : Sp} {s₁ : Shared} {vs : List Value} {ns : List Int}
    (kx : K.In s₁.heap) (gl : s₁.heap.Ns mainGlobals mg) (bl : s₁.heap.Ns builtinsNs mb) (bb : ∀ x : Str, x ≠ "__name__" → mb x = bootBuiltins x) (nl : s₁.heap.NoLimit) (smn : ∃ mm, s₁.heap.Ns sysModules mm) (gn : s₁.gens = #[])
    (ea : s₁.heap.get? a = some { cls := .type "list", data := .seq vs.toArray }) (ia : IntsAre vs ns) (hl : ns.length ≤ sizeLine) (rm : Room k callerA)
    (Fg : ∀ base : Heap, K.In base → base.Ns mainGlobals mg → FnG P w K mg base k fa fd [x] sp) (bd : ∀ (s : Shared) (u : Value), BindsTo s fd ⟨[u], []⟩ [(x, u)])
    (hsp : ∀ H : Hp, Only H → SqL K H a (ns.map V.int) → sp [.ref a] H (fun v _ => v = .bl true) fun _ _ _ => False) :
    codeAny (model P w) callerA (.call (.ref fa) ⟨[.ref a], []⟩) (fun r s' => r = .ok (.ret (.bool true)) ∧ OldK s₁.heap s'.heap ∧ s'.os = s₁.os ∧ AllBare s'.gens) s₁ := by
  have vv := vals_ints ia
  by_cases hk : K.lookup a = none
  · let G : Hp := fun b => if b = a then some (.frz { cls := .type "list", data := .seq vs.toArray } (.lst (ns.map V.int))) else none
    have gs : G a = some (.frz { cls := .type "list", data := .seq vs.toArray } (.lst (ns.map V.int))) := if_pos rfl
    have gn' : ∀ b, b ≠ a → G b = none := fun b z => if_neg z
    have oa : ∀ b, G b ≠ none → b = a := fun b z => Decidable.byContradiction fun n => z (gn' b n)
    have on : Only G := fun b => by
      by_cases z : b = a
      · subst z; exact .inr ⟨_, _, gs⟩
      · exact .inl (gn' b z)
    refine ends_of kx gl bl bb nl smn gn ea rm Fg bd on (fun b u z => ?_) oa (fun _ => hk) (hsp G on (.inl (.inr ⟨_, gs⟩)))
    obtain rfl := oa b (by rw [z]; exact nofun)
    rw [gs] at z
    obtain rfl := Option.some.inj z
    exact ⟨ea, by rw [List.length_map]; exact hl, vs, _, vv, ea⟩
  · obtain ⟨o, ho⟩ := Option.ne_none_iff_exists'.mp hk
    have z := kx a o ho
    rw [ea] at z
    obtain rfl := Option.some.inj z
    have on : Only (fun _ => none) := fun _ => .inl rfl
    refine ends_of kx gl bl bb nl smn gn ea rm Fg bd on (fun b u q => nomatch (show (none : Option HO) = some u from q)) (fun b q => absurd rfl q) (fun q => absurd rfl q) (hsp _ on ?_)
    exact .inr ⟨_, vs.toArray, _, ho, rfl, rfl, rfl, by rw [List.size_toArray, ia.length]; exact hl, by simpa using vv⟩
/-- a law's end, by facts of the head -/
theorem walk_ofG {l : PySem.W.OpenLaw} {n k : Nat} {q : Program} {loose : List Str} {XP : (Str → Option Value) → Heap → Prop} {YP : World → Heap → Prop} {d : DefRec} {x : Str}
    (hn : l.most = some n) (hn2 : n ≤ sizeLine) (hdf : d.params.defaults = []) (hr : Room k callerA) (him : importsNone q = true)
    (F : ∀ (w : World) (mg : Str → Option Value) (fa : Addr) (h : Heap), YP w h → h.Ns mainGlobals mg → mg d.name = some (.ref fa) →
      ∃ (K : PySem.W.Frag) (fd : FuncData) (sp : Sp), K.In h ∧ (∀ (s : Shared) (u : Value), PySem.BindsTo s fd ⟨[u], []⟩ [(x, u)]) ∧
        (∀ (H : Hp) (a : Addr) (ns : List Int), ns.length ≤ n → Only H → SqL K H a (ns.map V.int) → sp [.ref a] H (fun v _ => v = .bl true) fun _ _ _ => False) ∧
        ∀ base : Heap, K.In base → base.Ns mainGlobals mg → FnG l.prog w K mg base k fa fd [x] sp) :
    PySem.W.WalkO q loose XP YP l.row.toRowW d [] (fun f vs => PySem.call f vs) := by
  refine Att.attach_call hn hdf ?_
  intro w s₀ s₁ mg mb fa o pm cd doc a vs ns G Y ho hd hcd hmg hobj hints hlen hg
  obtain ⟨K, fd, sp, KX, hb, hsp, hF⟩ := F w mg fa _ Y G.T.g hmg
  exact law_ends KX G.T.g G.T.b G.T.builtins G.T.nolimit (let ⟨mm, z, _⟩ := (G.T.seer him).mods; ⟨mm, z⟩) hg hobj hints (Nat.le_trans hlen hn2) hr hF hb fun H hO hS => hsp H a ns hlen hO hS
end VL
set_option maxRecDepth 100000
namespace VL
open PySem L2
/-- what stands around: no error in hand, room, names of their own, the built-ins -/
structure Vx (X : Cx) (W : WX) : Prop where
  calm : X.calm = true
  room : Room 1 X.A
  gd : X.A.guards = some []
  sm : SmB X.base
  nd : X.N.Nodup
  tk : Takes X W
  po : PassesOwn (model X.prog X.w) X.A X.env X.xe
def cc (X : Cx) (ρ : Nat → Res) : Cc := ⟨X.K, X.mg, ρ⟩
def VE (X : Cx) (ρ : Nat → Res) (W : WX) (e : Expr) (f : FE) : Prop := ∃ t, PE X e t ∧ SE (cc X ρ) W t f
def VD (X : Cx) (ρ : Nat → Res) (W : WX) (es : List Expr) (f : FD) : Prop := ∃ t, PA X es t ∧ SD (cc X ρ) W t f
def VA (X : Cx) (ρ : Nat → Res) (W : WX) (es : List Expr) (f : FA) : Prop := ∃ t, PA X es t ∧ SA (cc X ρ) W t f
def VT (X : Cx) (ρ : Nat → Res) (W : WX) (e : Expr) (f : FT) : Prop := ∃ t, PT X e t ∧ ST (cc X ρ) W t f
/-- and, or: whatever the whole is -/
def VW (X : Cx) (ρ : Nat → Res) (W : WX) (e : Expr) (f : FT) : Prop := ∃ t, PW X e t ∧ ST (cc X ρ) W t f
section
variable {C : Cc} {π : List (Nat × V)} {e : Env} {σ : St} {w : WS} {p : Addr}
theorem Mt.notOwned (m : Mt C π e σ w) (hp : w.H p = none) (i : Nat) : ¬ w.fp i p := fun h => by
  obtain ⟨_, o, ho⟩ := m.own h
  rw [hp] at ho
  cases ho
/-- a new list -/
theorem mk_lst {zs : List V} {es : List PyData} (m : Mt C π e σ w) (hp : w.H p = none) (r : RpAll C.K w.G zs es) :
    Mt C π e σ (w.new p (.lst zs)) ∧ Frm w (w.new p (.lst zs)) ∧ OOk C σ w (w.new p (.lst zs)) (.b (.ow es)) (.ref p) :=
  ⟨m.new hp, .new hp, fun a => a = p, ⟨p, zs, rfl, m.sub.free hp, upd_same, r, fun _ => Iff.rfl⟩, fun a ha => by subst ha; exact ⟨.inl hp, m.notOwned hp⟩⟩
theorem mk_dic {ks : List (Key × V)} {es : List (PyData × PyData)} (m : Mt C π e σ w) (hp : w.H p = none) (k : ks.map (fun q => kP q.1) = es.map (·.1)) (r : RpAll C.K w.G (ks.map (·.2)) (es.map (·.2))) :
    Mt C π e σ (w.new p (.dK ks)) ∧ Frm w (w.new p (.dK ks)) ∧ OOk C σ w (w.new p (.dK ks)) (.b (.od es)) (.ref p) :=
  ⟨m.new hp, .new hp, fun a => a = p, ⟨p, ks, rfl, m.sub.free hp, upd_same, k, r, fun _ => Iff.rfl⟩, fun a ha => by subst ha; exact ⟨.inl hp, m.notOwned hp⟩⟩
/-- a new tuple, frozen -/
theorem mk_tup {zs : List V} {es : List PyData} (m : Mt C π e σ w) (hp : w.H p = none) (r : RpAll C.K w.G zs es) :
    ∃ w', Mt C π e σ w' ∧ Frm w w' ∧ w'.H = upd w.H p (.tup zs) ∧ OOk C σ w w' (.b (.fr (.tuple es))) (.ref p) := by
  have hG : w.G p = none := m.sub.free hp
  have sG : Same w.G (upd w.G p (.tup zs)) := fun a u q => by rw [upd_ne (ne_of_none q hG)]; exact q
  refine ⟨(w.new p (.tup zs)).frz p (.tup zs), (m.new hp).frz upd_same hG (fun i => m.notOwned hp i), (Frm.new hp).frz (.inl hp) hG, rfl, .fr (.tup upd_same (r.mono sG))⟩
end
section
variable {X : Cx} {ρ : Nat → Res} {W : WX} {a b c : Expr} {pos : Pos} {fa fb fc : FE} {ta tb tc : FT}
theorem ve_var (i : Nat) {x : Str} (hN : X.N[i]? = some x := by rfl) (hv : Vis X.env.scope x := by first | exact Or.inl rfl | exact Or.inr (Or.inl rfl) | exact Or.inr (Or.inr rfl)) (hd : (x == ("__debug__" : Str)) = false := by decide)
    (hcd : (x == ("__classdict__" : Str)) = false := by decide) : VE X ρ W (.Name x pos) (fVar i) := by
  refine ⟨_, pe_var hN hv hd hcd, fun π e σ w Q m h => ?_⟩
  unfold fVar at h
  cases q : at? e i with
  | none => rw [q] at h; exact h.elim
  | some b =>
    rw [q] at h
    obtain ⟨v, h1, h2⟩ := m.bok i b q
    exact ⟨v, h1, h v w m (.refl w) h1⟩
theorem se_c {C : Cc} {v : V} {d : PyData} (h : ∀ G, Rp C.K G v d) : SE C W (tC v) (fC d) := fun π e σ w Q m k => k v w m (.refl w) (.fr (h _))
theorem ve_int {i j} : VE X ρ W (.Constant (.int i) j pos) (fC (.int i)) := ⟨_, pe_int, se_c fun _ => .int i⟩
theorem ve_bl {i j} : VE X ρ W (.Constant (.bool i) j pos) (fC (.bool i)) := ⟨_, pe_bl, se_c fun _ => .bl i⟩
theorem ve_non {j} : VE X ρ W (.Constant .none j pos) (fC .none) := ⟨_, pe_non, se_c fun _ => .non⟩
theorem ve_str {i j} : VE X ρ W (.Constant (.str i) j pos) (fC (.str i)) := ⟨_, pe_str, se_c fun _ => .str i⟩
/-- a constant of the module -/
theorem ve_glob {x : Str} {v : V} {u : Value} {d : PyData} (hm : X.mg x = some u) (r : RelV v u) (h : ∀ G, Rp X.K G v d) (hg : Gl X x := by rfl) (hd : (x == ("__debug__" : Str)) = false := by decide) : VE X ρ W (.Name x pos) (fC d) :=
  ⟨_, pe_glob hg hm r hd, se_c h⟩
def OpV (X : Cx) (ρ : Nat → Res) (F : Value → Value → Sem Value) (op : PyData → PyData → Option B) : Prop := ∃ r, OpR X F r ∧
  ∀ π e σ w x y dx dy z Q, Mt (cc X ρ) π e σ w → Rq X.K w.G w.H x dx → Rq X.K w.G w.H y dy → op dx dy = some z → (∀ v w', Mt (cc X ρ) π e σ w' → Frm w w' → OOk (cc X ρ) σ w w' (.b z) v → Q v w'.H) → r x y w.H Q
theorem se_bin {C : Cc} {r : R2} {op : PyData → PyData → Option B} {ta tb : TE} (hr : ∀ π e σ w x y dx dy z Q, Mt C π e σ w → Rq C.K w.G w.H x dx → Rq C.K w.G w.H y dy → op dx dy = some z → (∀ v w', Mt C π e σ w' → Frm w w' → OOk C σ w w' (.b z) v → Q v w'.H) → r x y w.H Q)
    (ha : SE C W ta fa) (hb : SE C W tb fb) : SE C W (tOp r ta tb) (fBin op fa fb) := fun π e σ w Q m h => by
  refine ha π e σ w _ m (h.bnd fun o1 e1 v1 w1 m1 f1 k1 h1 => ?_)
  refine hb π e1 σ w1 _ m1 ((h1.from f1).bnd fun o2 e2 v2 w2 m2 f2 k2 h2 => ?_)
  have h3 := h2.from f2
  cases q1 : res e2 o1 with
  | none => rw [q1] at h3; exact h3.elim
  | some d1 =>
    cases q2 : res e2 o2 with
    | none => rw [q1, q2] at h3; exact h3.elim
    | some d2 =>
      rw [q1, q2] at h3
      simp only [Option.bind_some] at h3
      cases q3 : op d1 d2 with
      | none => rw [q3] at h3; exact h3.elim
      | some z =>
        rw [q3] at h3
        exact hr π e2 σ w2 v1 v2 d1 d2 z Q m2 (res_sound m2 (k1.step f2) q1) (res_sound m2 k2 q2) q3 fun v w' m' f' k' => h3 v w' m' f' (k'.base (f1.trans f2))
theorem ve_op {op : Operator} {g : PyData → PyData → Option B} (ho : OpV X ρ (binaryOp op) g) (ha : VE X ρ W a fa) (hb : VE X ρ W b fb) : VE X ρ W (.BinOp a op b pos) (fBin g fa fb) := by
  obtain ⟨r, h1, h2⟩ := ho
  obtain ⟨ta, pa, sa⟩ := ha
  obtain ⟨tb, pb, sb⟩ := hb
  exact ⟨_, pe_op h1 pa pb, se_bin h2 sa sb⟩
theorem ve_cmp {op : CmpOp} {g : PyData → PyData → Option B} (ho : OpV X ρ (compareOp op) g) (ha : VE X ρ W a fa) (hb : VE X ρ W b fb) (hm : behindInMarks op b = false := by first | exact nomark _ | rfl) : VE X ρ W (.Compare a [op] [b] pos) (fBin g fa fb) := by
  obtain ⟨r, h1, h2⟩ := ho
  obtain ⟨ta, pa, sa⟩ := ha
  obtain ⟨tb, pb, sb⟩ := hb
  exact ⟨_, pe_cmpR h1 pa pb hm, se_bin h2 sa sb⟩
def UnV (X : Cx) (ρ : Nat → Res) (F : Value → Sem Value) (op : PyData → Option B) : Prop := ∃ r, UnR X F r ∧
  ∀ π e σ w x dx z Q, Mt (cc X ρ) π e σ w → Rq X.K w.G w.H x dx → op dx = some z → (∀ v w', Mt (cc X ρ) π e σ w' → Frm w w' → OOk (cc X ρ) σ w w' (.b z) v → Q v w'.H) → r x w.H Q
theorem se_un {C : Cc} {r : V → Hp → VK → Prop} {op : PyData → Option B} {ta : TE} (hr : ∀ π e σ w x dx z Q, Mt C π e σ w → Rq C.K w.G w.H x dx → op dx = some z → (∀ v w', Mt C π e σ w' → Frm w w' → OOk C σ w w' (.b z) v → Q v w'.H) → r x w.H Q)
    (ha : SE C W ta fa) : SE C W (L2.tUn r ta) (fUn op fa) := fun π e σ w Q m h => by
  refine ha π e σ w _ m (h.bnd fun o1 e1 v1 w1 m1 f1 k1 h1 => ?_)
  have h3 := h1.from f1
  cases q1 : res e1 o1 with
  | none => rw [q1] at h3; exact h3.elim
  | some d1 =>
    rw [q1] at h3
    simp only [Option.bind_some] at h3
    cases q3 : op d1 with
    | none => rw [q3] at h3; exact h3.elim
    | some z =>
      rw [q3] at h3
      exact hr π e1 σ w1 v1 d1 z Q m1 (res_sound m1 k1 q1) q3 fun v w' m' f' k' => h3 v w' m' f' (k'.base f1)
theorem ve_un {op : UnaryOp} {g : PyData → Option B} (ho : UnV X ρ (unaryOp op) g) (ha : VE X ρ W a fa) : VE X ρ W (.UnaryOp op a pos) (fUn g fa) := by
  obtain ⟨r, h1, h2⟩ := ho
  obtain ⟨ta, pa, sa⟩ := ha
  exact ⟨_, pe_un h1 pa, se_un h2 sa⟩
/-- scalars -/
theorem sc_end {C : Cc} {π : List (Nat × V)} {e : Env} {σ : St} {w : WS} {d : PyData} {v : V} {Q : VK} (m : Mt C π e σ w) (k : ∀ v w', Mt C π e σ w' → Frm w w' → OOk C σ w w' (.b (.fr d)) v → Q v w'.H) (h : Rp C.K w.G v d) : Q v w.H :=
  k v w m (.refl w) (.fr h)
def opI (C : Int → Int → Bool) (g : Int → Int → Int) : PyData → PyData → Option B
  | .int i, .int j => if C i j = true then some (.fr (.int (g i j))) else none
  | _, _ => none
theorem opv_I {F : Value → Value → Sem Value} {P : Int → Int → Prop} {C : Int → Int → Bool} {g : Int → Int → Int} (hr : OpR X F (rI P fun i j => .int (g i j))) (hC : ∀ i j, C i j = true → P i j) : OpV X ρ F (opI C g) := by
  refine ⟨_, hr, fun π e σ w x y dx dy z Q m hx hy hz k => ?_⟩
  unfold opI at hz
  split at hz
  · rename_i i j
    split at hz
    · cases hz
      cases hx
      cases hy
      exact ⟨i, j, rfl, rfl, hC i j (by assumption), sc_end m k (.int _)⟩
    · cases hz
  · cases hz
def opI0 (g : Int → Int → Int) : PyData → PyData → Option B
  | .int i, .int j => some (.fr (.int (g i j)))
  | _, _ => none
def opB0 (g : Int → Int → Bool) : PyData → PyData → Option B
  | .int i, .int j => some (.fr (.bool (g i j)))
  | _, _ => none
theorem opv_B0 {F : Value → Value → Sem Value} {g : Int → Int → Bool} (hr : OpR X F (rI0 fun i j => .bl (g i j))) : OpV X ρ F (opB0 g) := by
  refine ⟨_, hr, fun π e σ w x y dx dy z Q m hx hy hz k => ?_⟩
  unfold opB0 at hz
  split at hz
  · rename_i i j
    cases hz
    cases hx
    cases hy
    exact ⟨i, j, rfl, rfl, sc_end m k (.bl _)⟩
  · cases hz
abbrev oLt := opB0 fun i j => decide (i < j)
abbrev oLe := opB0 fun i j => decide (i ≤ j)
abbrev oGt := opB0 fun i j => decide (j < i)
abbrev oGe := opB0 fun i j => decide (j ≤ i)
theorem v_lt : OpV X ρ (compareOp .Lt) oLt := opv_B0 op_lt
theorem v_le : OpV X ρ (compareOp .LtE) oLe := opv_B0 op_le
theorem v_gt : OpV X ρ (compareOp .Gt) oGt := opv_B0 op_gt
theorem v_ge : OpV X ρ (compareOp .GtE) oGe := opv_B0 op_ge
abbrev oSub := opI0 fun i j => i - j
abbrev oMod := opI (fun _ j => decide (0 < j)) fun i j => i % j
theorem v_mod : OpV X ρ (binaryOp .Mod) oMod := opv_I op_mod fun _ _ h => of_decide_eq_true h
def cPow (i j : Int) : Bool := decide (0 ≤ j) && decide (j.natAbs ≤ 1000000) && decide (i.natAbs < 2 ^ 64)
theorem cPow_ok {i j : Int} (h : cPow i j = true) : 0 ≤ j ∧ j ≤ 1000000 ∧ i.natAbs < 2 ^ 64 := by
  unfold cPow at h
  rw [Bool.and_eq_true, Bool.and_eq_true, decide_eq_true_eq, decide_eq_true_eq, decide_eq_true_eq] at h
  exact ⟨h.1.1, by omega, h.2⟩
abbrev oPow := opI cPow fun i j => i ^ j.toNat
theorem v_pow : OpV X ρ (binaryOp .Pow) oPow := opv_I op_pow fun i j h => cPow_ok h
def oNeg : PyData → Option B
  | .int i => some (.fr (.int (-i)))
  | _ => none
theorem v_neg : UnV X ρ (unaryOp .USub) oNeg := by
  refine ⟨_, un_neg, fun π e σ w x dx z Q m hx hz k => ?_⟩
  unfold oNeg at hz
  split at hz
  · rename_i i
    cases hz
    cases hx
    exact ⟨i, rfl, sc_end m k (.int _)⟩
  · cases hz
theorem vt_of (hs : ∀ whole, isTrue a X.env whole = (do let v ← whole; standAt a.pos; holding [v] (truthy v))) (ha : VE X ρ W a fa) : VT X ρ W a (fTest fa) := by
  obtain ⟨t, p, s⟩ := ha
  refine ⟨_, pt_val p hs, fun π e σ w Q m h => ?_⟩
  refine s π e σ w _ m (h.bnd fun o1 e1 v1 w1 m1 f1 k1 h1 => ?_)
  have h3 := h1.from f1
  cases q1 : res e1 o1 with
  | none => rw [q1] at h3; exact h3.elim
  | some d1 =>
    rw [q1] at h3
    cases d1 with
    | bool bb =>
      have r := res_sound m1 k1 q1
      cases r
      exact ⟨bb, rfl, h3 bb w1 m1 (.refl _) rfl⟩
    | none => exact h3.elim
    | int i => exact h3.elim
    | str i => exact h3.elim
    | list i => exact h3.elim
    | tuple i => exact h3.elim
    | dict i => exact h3.elim
theorem st_test {C : Cc} {t : TE} (s : SE C W t fa) : ST C W (tTest t) (fTest fa) := fun π e σ w Q m h => by
  refine s π e σ w _ m (h.bnd fun o1 e1 v1 w1 m1 f1 k1 h1 => ?_)
  have h3 := h1.from f1
  cases q1 : res e1 o1 with
  | none => rw [q1] at h3; exact h3.elim
  | some d1 =>
    rw [q1] at h3
    cases d1 with
    | bool bb =>
      have r := res_sound m1 k1 q1
      cases r
      exact ⟨bb, rfl, h3 bb w1 m1 (.refl _) rfl⟩
    | none => exact h3.elim
    | int i => exact h3.elim
    | str i => exact h3.elim
    | list i => exact h3.elim
    | tuple i => exact h3.elim
    | dict i => exact h3.elim
theorem vt_cmp {op : CmpOp} {g : PyData → PyData → Option B} (ho : OpV X ρ (compareOp op) g) (ha : VE X ρ W a fa) (hb : VE X ρ W b fb) (hm : behindInMarks op b = false := by first | exact nomark _ | rfl) : VT X ρ W (.Compare a [op] [b] pos) (fTest (fBin g fa fb)) := by
  obtain ⟨r, h1, h2⟩ := ho
  obtain ⟨ta, pa, sa⟩ := ha
  obtain ⟨tb, pb, sb⟩ := hb
  exact ⟨_, pt_cmpR h1 pa pb hm, st_test (se_bin h2 sa sb)⟩
theorem VW.vt (h : VW X ρ W a ta) : VT X ρ W a ta := by
  obtain ⟨t, p, s⟩ := h
  exact ⟨t, p.pt, s⟩
theorem vw_and1 (ha : VT X ρ W a ta) : VW X ρ W (.BoolOp .And [a] pos) ta := by
  obtain ⟨t, p, s⟩ := ha
  exact ⟨t, pw_and1 p, s⟩
theorem vw_or1 (ha : VT X ρ W a ta) : VW X ρ W (.BoolOp .Or [a] pos) ta := by
  obtain ⟨t, p, s⟩ := ha
  exact ⟨t, pw_or1 p, s⟩
theorem st_and {C : Cc} {t u : TT} (s1 : ST C W t ta) (s2 : ST C W u tb) : ST C W (L2.tAnd t u) (tAnd ta tb) := fun π e σ w Q m h => by
  refine s1 π e σ w _ m (h.bnd fun o1 e1 v1 w1 m1 f1 k1 h1 => ?_)
  subst k1
  have h3 := h1.from f1
  cases o1 with
  | true => rw [if_pos rfl]; exact s2 π e1 σ w1 _ m1 h3
  | false => rw [if_neg Bool.false_ne_true]; exact h3 false w1 m1 (.refl _) rfl
theorem st_or {C : Cc} {t u : TT} (s1 : ST C W t ta) (s2 : ST C W u tb) : ST C W (L2.tOr t u) (tOr ta tb) := fun π e σ w Q m h => by
  refine s1 π e σ w _ m (h.bnd fun o1 e1 v1 w1 m1 f1 k1 h1 => ?_)
  subst k1
  have h3 := h1.from f1
  cases o1 with
  | false => rw [if_neg Bool.false_ne_true]; exact s2 π e1 σ w1 _ m1 h3
  | true => rw [if_pos rfl]; exact h3 true w1 m1 (.refl _) rfl
theorem vw_and {rest : List Expr} (ha : VT X ρ W a ta) (hb : VW X ρ W (.BoolOp .And (b :: rest) pos) tb) : VW X ρ W (.BoolOp .And (a :: b :: rest) pos) (tAnd ta tb) := by
  obtain ⟨t, p, s⟩ := ha
  obtain ⟨t2, p2, s2⟩ := hb
  exact ⟨_, pw_and p p2, st_and s s2⟩
theorem vw_or {rest : List Expr} (ha : VT X ρ W a ta) (hb : VW X ρ W (.BoolOp .Or (b :: rest) pos) tb) : VW X ρ W (.BoolOp .Or (a :: b :: rest) pos) (tOr ta tb) := by
  obtain ⟨t, p, s⟩ := ha
  obtain ⟨t2, p2, s2⟩ := hb
  exact ⟨_, pw_or p p2, st_or s s2⟩
theorem vt_not (ha : VT X ρ W a ta) : VT X ρ W (.UnaryOp .Not a pos) (tNot ta) := by
  obtain ⟨t, p, s⟩ := ha
  refine ⟨_, pt_not p, fun π e σ w Q m h => ?_⟩
  refine s π e σ w _ m (h.bnd fun o1 e1 v1 w1 m1 f1 k1 h1 => ?_)
  subst k1
  exact h1.from f1 (!o1) w1 m1 (.refl _) rfl
theorem ve_ifExp (hc : VT X ρ W c tc) (ha : VE X ρ W a fa) (hb : VE X ρ W b fb) : VE X ρ W (.IfExp c a b pos) (fIf tc fa fb) := by
  obtain ⟨t, p, s⟩ := hc
  obtain ⟨t1, p1, s1⟩ := ha
  obtain ⟨t2, p2, s2⟩ := hb
  refine ⟨_, pe_ifExp p p1 p2, fun π e σ w Q m h => ?_⟩
  refine s π e σ w _ m (h.bnd fun o1 e1 v1 w1 m1 f1 k1 h1 => ?_)
  subst k1
  have h3 := h1.from f1
  cases o1 with
  | true => rw [if_pos rfl]; exact s1 π e1 σ w1 _ m1 (Post.reb f1 h1)
  | false => rw [if_neg Bool.false_ne_true]; exact s2 π e1 σ w1 _ m1 (Post.reb f1 h1)
end
end VL
set_option maxRecDepth 100000
namespace VL
open PySem L2
section
variable {X : Cx} {ρ : Nat → Res} {W : WX} {a b c : Expr} {es : List Expr} {pos : Pos} {fa fb fc : FE} {ta tb tc : FT} {fd : FD} {as_ : FA}
theorem big_le : big ≤ sizeLine := by decide
theorem le_big {n : Nat} (h : n ≤ big) : n ≤ sizeLine := Nat.le_trans h big_le
theorem vd_nil : VD X ρ W [] dNil := ⟨_, pa_nil, fun π e σ w Q m h => h [] w m (.refl w) .nil⟩
theorem vd_cons (ha : VE X ρ W a fa) (hr : VD X ρ W es fd) (hs : starEach (a :: es) X.env = (false, eval a X.env) :: starEach es X.env := by rfl) : VD X ρ W (a :: es) (dCons fa fd) := by
  obtain ⟨t, p, s⟩ := ha
  obtain ⟨t2, p2, s2⟩ := hr
  refine ⟨_, pa_cons p p2 hs, fun π e σ w Q m h => ?_⟩
  refine s π e σ w _ m (h.bnd fun o1 e1 v1 w1 m1 f1 k1 h1 => ?_)
  cases q1 : fz e1 o1 with
  | none => rw [q1] at h1; exact h1.elim
  | some pr =>
    rw [q1] at h1
    simp only [Option.bind_some] at h1
    obtain ⟨w2, m2, f2, eH, r2⟩ := fz_sound (e' := pr.2) m1 f1 k1 q1
    rw [← eH]
    refine s2 π pr.2 σ w2 _ m2 ((h1.from f2).bnd fun ds e3 vs w3 m3 f3 k3 h3 => ?_)
    exact h3 (v1 :: vs) w3 m3 f3 (.cons (r2.mono f3.g) k3)
theorem ve_lst (h : VD X ρ W es fd) : VE X ρ W (.List es pos) (fLst fd) := by
  obtain ⟨t, p, s⟩ := h
  refine ⟨_, pe_lst p, fun π e σ w Q m h => ?_⟩
  refine s π e σ w _ m (h.bnd fun ds e1 vs w1 m1 f1 k1 h1 => ?_)
  have h2 := h1.from f1
  have hl := k1.length
  split at h2
  · rename_i hz
    refine ⟨by rw [hl]; exact Nat.le_trans hz (by decide), fun p hp => ?_⟩
    obtain ⟨m2, f2, k2⟩ := mk_lst m1 hp k1
    exact h2 _ _ m2 f2 (k2.base f1)
  · exact h2.elim
theorem ve_tup {x1} (h : VD X ρ W es fd) : VE X ρ W (.Tuple es x1 pos) (fTup fd) := by
  obtain ⟨t, p, s⟩ := h
  refine ⟨_, pe_tup p, fun π e σ w Q m h => ?_⟩
  refine s π e σ w _ m (h.bnd fun ds e1 vs w1 m1 f1 k1 h1 => ?_)
  have h2 := h1.from f1
  have hl := k1.length
  split at h2
  · rename_i hz
    refine ⟨by rw [hl]; exact Nat.le_trans hz (by decide), fun p hp => ?_⟩
    obtain ⟨w2, m2, f2, eH, k2⟩ := mk_tup m1 hp k1
    rw [← eH]
    exact h2 _ _ m2 f2 (k2.base f1)
  · exact h2.elim
theorem ve_one {op} (h : VE X ρ W a fa) : VE X ρ W (.BoolOp op [a] pos) fa := by
  obtain ⟨t, p, s⟩ := h
  exact ⟨t, pe_one p, s⟩
theorem ve_and {rest : List Expr} (ha : VE X ρ W a fa) (hb : VE X ρ W (.BoolOp .And (b :: rest) pos) fb) : VE X ρ W (.BoolOp .And (a :: b :: rest) pos) (fAndV fa fb) := by
  obtain ⟨t, p, s⟩ := ha
  obtain ⟨t2, p2, s2⟩ := hb
  refine ⟨_, pe_and p p2, fun π e σ w Q m h => ?_⟩
  refine s π e σ w _ m (h.bnd fun o1 e1 v1 w1 m1 f1 k1 h1 => ?_)
  cases q1 : res e1 o1 with
  | none => rw [q1] at h1; exact h1.elim
  | some d1 =>
    rw [q1] at h1
    have r := res_sound m1 k1 q1
    split at h1
    · rename_i z; cases z; cases r
      exact ⟨true, rfl, by rw [if_pos rfl]; exact s2 π e1 σ w1 _ m1 (Post.reb f1 h1)⟩
    · rename_i z; cases z; cases r
      exact ⟨false, rfl, by rw [if_neg Bool.false_ne_true]; exact h1 _ w1 m1 f1 (.fr (.bl _))⟩
    · exact h1.elim
theorem ve_or {rest : List Expr} (ha : VE X ρ W a fa) (hb : VE X ρ W (.BoolOp .Or (b :: rest) pos) fb) : VE X ρ W (.BoolOp .Or (a :: b :: rest) pos) (fOrV fa fb) := by
  obtain ⟨t, p, s⟩ := ha
  obtain ⟨t2, p2, s2⟩ := hb
  refine ⟨_, pe_or p p2, fun π e σ w Q m h => ?_⟩
  refine s π e σ w _ m (h.bnd fun o1 e1 v1 w1 m1 f1 k1 h1 => ?_)
  cases q1 : res e1 o1 with
  | none => rw [q1] at h1; exact h1.elim
  | some d1 =>
    rw [q1] at h1
    have r := res_sound m1 k1 q1
    split at h1
    · rename_i z; cases z; cases r
      exact ⟨true, rfl, by rw [if_pos rfl]; exact h1 _ w1 m1 f1 (.fr (.bl _))⟩
    · rename_i z; cases z; cases r
      exact ⟨false, rfl, by rw [if_neg Bool.false_ne_true]; exact s2 π e1 σ w1 _ m1 (Post.reb f1 h1)⟩
    · exact h1.elim
theorem ve_not (ha : VE X ρ W a fa) : VE X ρ W (.UnaryOp .Not a pos) (fNotV fa) := by
  obtain ⟨t, p, s⟩ := ha
  refine ⟨_, pe_not p, fun π e σ w Q m h => ?_⟩
  refine s π e σ w _ m (h.bnd fun o1 e1 v1 w1 m1 f1 k1 h1 => ?_)
  cases q1 : res e1 o1 with
  | none => rw [q1] at h1; exact h1.elim
  | some d1 =>
    rw [q1] at h1
    have r := res_sound m1 k1 q1
    split at h1
    · rename_i bb z; cases z; cases r
      exact ⟨bb, rfl, h1 _ w1 m1 f1 (.fr (.bl _))⟩
    · exact h1.elim
theorem se_chain {op op' : CmpOp} {g g' : PyData → PyData → Option B} (ho : OpV X ρ (compareOp op) g) (ho' : OpV X ρ (compareOp op') g') (ha : VE X ρ W a fa) (hb : VE X ρ W b fb) (hc : VE X ρ W c fc) :
    ∃ r r' t1 t2 t3, OpR X (compareOp op) r ∧ OpR X (compareOp op') r' ∧ PE X a t1 ∧ PE X b t2 ∧ PE X c t3 ∧ SE (cc X ρ) W (tChain r r' t1 t2 t3) (fChain g g' fa fb fc) := by
  obtain ⟨r, h1, h2⟩ := ho
  obtain ⟨r', h1', h2'⟩ := ho'
  obtain ⟨t1, p1, s1⟩ := ha
  obtain ⟨t2, p2, s2⟩ := hb
  obtain ⟨t3, p3, s3⟩ := hc
  refine ⟨r, r', t1, t2, t3, h1, h1', p1, p2, p3, fun π e σ w Q m h => ?_⟩
  refine s1 π e σ w _ m (h.bnd fun o1 e1 v1 w1 m1 f1 k1 h1 => ?_)
  refine s2 π e1 σ w1 _ m1 ((h1.from f1).bnd fun o2 e2 v2 w2 m2 f2 k2 h2x => ?_)
  have h3 := h2x.from f2
  cases q1 : res e2 o1 with
  | none => rw [q1] at h3; exact h3.elim
  | some d1 =>
    cases q2 : res e2 o2 with
    | none => rw [q1, q2] at h3; exact h3.elim
    | some d2 =>
      rw [q1, q2] at h3
      simp only [Option.bind_some] at h3
      cases q3 : g d1 d2 with
      | none => rw [q3] at h3; exact h3.elim
      | some z =>
        rw [q3] at h3
        refine h2 π e2 σ w2 v1 v2 d1 d2 z _ m2 (res_sound m2 (k1.step f2) q1) (res_sound m2 k2 q2) q3 fun v w' m' f' k' => ?_
        split at h3
        · rename_i z2; cases z2
          obtain ⟨_, kk, _⟩ := k'
          cases kk.1
          refine ⟨true, rfl, ?_⟩
          rw [if_pos rfl]
          refine s3 π e2 σ w' _ m' ((h3.from f').bnd fun o3 e3 v3 w3 m3 f3 k3 h4 => ?_)
          have h5 := h4.from f3
          cases q5 : res e3 o2 with
          | none => rw [q5] at h5; exact h5.elim
          | some d5 =>
            cases q6 : res e3 o3 with
            | none => rw [q5, q6] at h5; exact h5.elim
            | some d6 =>
              rw [q5, q6] at h5
              simp only [Option.bind_some] at h5
              cases q7 : g' d5 d6 with
              | none => rw [q7] at h5; exact h5.elim
              | some z7 =>
                rw [q7] at h5
                exact h2' π e3 σ w3 v2 v3 d5 d6 z7 Q m3 (res_sound m3 ((k2.step f').step f3) q5) (res_sound m3 k3 q6) q7 fun v w5 m5 f5 k5 => h5 v w5 m5 f5 (k5.base (((f1.trans f2).trans f').trans f3))
        · rename_i z2; cases z2
          obtain ⟨_, kk, _⟩ := k'
          cases kk.1
          refine ⟨false, rfl, ?_⟩
          rw [if_neg Bool.false_ne_true]
          exact h3 _ w' m' f' (.fr (.bl _))
        · exact h3.elim
theorem vt_chain {op op' : CmpOp} {g g' : PyData → PyData → Option B} (ho : OpV X ρ (compareOp op) g) (ho' : OpV X ρ (compareOp op') g') (ha : VE X ρ W a fa) (hb : VE X ρ W b fb) (hc : VE X ρ W c fc) (hm : lastMarks [op, op'] [b, c] = false := by with_unfolding_all rfl) :
    VT X ρ W (.Compare a [op, op'] [b, c] pos) (fTest (fChain g g' fa fb fc)) := by
  obtain ⟨r, r', t1, t2, t3, h1, h1', p1, p2, p3, s⟩ := se_chain ho ho' ha hb hc
  exact ⟨_, pt_chain h1 h1' p1 p2 p3 hm, st_test s⟩
theorem v_add : OpV X ρ (binaryOp .Add) oAdd := by
  refine ⟨_, OpR.or op_add (OpR.or op_add_str (OpR.or op_cat op_catA)), fun π e σ w x y dx dy z Q m hx hy hz k => ?_⟩
  unfold oAdd at hz
  split at hz
  · cases hz; cases hx; cases hy
    exact .inl ⟨_, _, rfl, rfl, sc_end m k (.int _)⟩
  · split at hz
    · rename_i hb
      cases hz; cases hx; cases hy
      exact .inr (.inl ⟨_, _, rfl, rfl, le_big hb, sc_end m k (.str _)⟩)
    · cases hz
  · split at hz
    · rename_i hb
      cases hz
      obtain ⟨p, xs, rfl, hp, rp⟩ := hx
      obtain ⟨q, ys, rfl, hq, rq⟩ := hy
      have l1 := rp.length
      have l2 := rq.length
      refine .inr (.inr (.inl ⟨p, q, xs, ys, rfl, rfl, hp, hq, by rw [l1, l2]; exact le_big hb, fun r hr => ?_⟩))
      obtain ⟨m2, f2, k2⟩ := mk_lst m hr (rp.append rq)
      exact k _ _ m2 f2 k2
    · cases hz
  · split at hz
    · rename_i hb
      cases hz
      obtain ⟨p, xs, rfl, hp, rp⟩ := hx
      obtain ⟨q, ys, rfl, hq, rq⟩ := hy
      have l1 := rp.length
      have l2 := rq.length
      have e1 : w.H p = some (.tup xs) := m.sub _ _ hp
      have e2 : w.H q = some (.tup ys) := m.sub _ _ hq
      refine .inr (.inr (.inr ⟨p, q, xs, ys, rfl, rfl, .of e1, .of e2, by rw [l1, l2]; exact le_big hb, fun e => ?_, fun e e' => ?_, fun e e' r hr => ?_⟩))
      · subst e
        cases rp
        exact k _ w m (.refl w) (.fr (.tup hq rq))
      · subst e'
        cases rq
        rw [List.append_nil] at k
        exact k _ w m (.refl w) (.fr (.tup hp rp))
      · obtain ⟨w2, m2, f2, eH, k2⟩ := mk_tup m hr (rp.append rq)
        rw [← eH]
        exact k _ _ m2 f2 k2
    · cases hz
  · cases hz
theorem flat_rep {K : PySem.W.Frag} {G : Hp} {vs : List V} {ds : List PyData} (h : RpAll K G vs ds) : ∀ n : Nat, RpAll K G (List.replicate n vs).flatten (List.replicate n ds).flatten
  | 0 => .nil
  | n + 1 => by
    rw [List.replicate_succ, List.replicate_succ, List.flatten_cons, List.flatten_cons]
    exact h.append (flat_rep h n)
theorem cMul_ok {i j : Int} (h : cMul i j = true) : (-(2 ^ 64) < i ∧ i < 2 ^ 64) ∨ (-(2 ^ 64) < j ∧ j < 2 ^ 64) := by
  unfold cMul at h
  rw [Bool.or_eq_true, decide_eq_true_eq, decide_eq_true_eq] at h
  rcases h with h | h
  · exact .inl ⟨by omega, by omega⟩
  · exact .inr ⟨by omega, by omega⟩
theorem cFdiv_ok {i j : Int} (h : cFdiv i j = true) : 0 < j ∧ j < 2 ^ 200 := by
  unfold cFdiv at h
  rw [Bool.and_eq_true, decide_eq_true_eq, decide_eq_true_eq] at h
  exact ⟨h.1, by omega⟩
theorem v_mul : OpV X ρ (binaryOp .Mult) oMul := by
  refine ⟨_, OpR.or op_mul op_rep, fun π e σ w x y dx dy z Q m hx hy hz k => ?_⟩
  unfold oMul at hz
  split at hz
  · split at hz
    · rename_i i j hc
      cases hz; cases hx; cases hy
      exact .inl ⟨_, _, rfl, rfl, cMul_ok hc, sc_end m k (.int _)⟩
    · cases hz
  · split at hz
    · rename_i hb
      cases hz; cases hy
      obtain ⟨p, xs, rfl, hp, rp⟩ := hx
      have l1 := rp.length
      refine .inr ⟨p, _, xs, rfl, rfl, hp, by omega, by omega, by rw [l1]; exact le_big hb.2, fun r hr => ?_⟩
      obtain ⟨m2, f2, k2⟩ := mk_lst m hr (flat_rep rp _)
      exact k _ _ m2 f2 k2
    · cases hz
  · cases hz
theorem v_fdiv : OpV X ρ (binaryOp .FloorDiv) (opI cFdiv fun i j => i / j) := by
  refine opv_I (op_fdivW) fun i j h => ?_
  have h' : 0 < j ∧ j < 2 ^ 200 := cFdiv_ok h
  exact wide_div (b := 200) h'.1 (by omega) (by decide) (by decide)
theorem Rq.dp {K : PySem.W.Frag} {G H : Hp} {v : V} {d : PyData} (h : Rq K G H v d) (s : Same G H) (c : SeqAt.shaped d = true) : Dp K H v d := (h.rp s).dp d (SeqAt.canLay_of_shaped c)
/-- a list beside the empty list: its length tells -/
def rEN (f : Bool → Bool) : R2 := fun x y H Q => ∃ a b xs, x = V.ref a ∧ y = V.ref b ∧ H a = some (.lst xs) ∧ H b = some (.lst []) ∧ Q (.bl (f xs.isEmpty)) H
theorem op_eqN (hu : X.A.units < cLine) : OpR X (compareOp .Eq) (rEN id) := by
  intro pins s σ H x y v u Q I rx ry h
  obtain ⟨a, b, xs, rfl, rfl, ha, hb, q⟩ := h
  cases (show v = Value.ref a from rx)
  cases (show u = Value.ref b from ry)
  obtain ⟨us, r1, p1, _⟩ := I.list (.inl (.inl ha))
  obtain ⟨ws, r2, p2, _⟩ := I.list (.inl (.inl hb))
  have n1 := r1.length
  have n2 := r2.length
  cases xs with
  | nil =>
    cases us with
    | cons _ _ => cases n1
    | nil =>
      cases ws with
      | cons _ _ => cases n2
      | nil => exact SeqAt.RcAt.lists (e := fun _ => true) p1.isList p2.isList rfl hu (fun j h1 => absurd h1 (Nat.not_lt_zero _)) X.prog X.w _ _ ⟨.bl true, H, I, rfl, q⟩
  | cons x xs =>
    cases us with
    | nil => cases n1
    | cons u us =>
      cases ws with
      | cons _ _ => cases n2
      | nil => exact SeqAt.RcAt.lists_lengths p1.isList p2.isList (by simp) hu X.prog X.w _ _ ⟨.bl false, H, I, rfl, q⟩
theorem op_neN (hu : X.A.units < cLine) : OpR X (compareOp .NotEq) (rEN not) := by
  intro pins s σ H x y v u Q I rx ry h
  obtain ⟨a, b, xs, rfl, rfl, ha, hb, q⟩ := h
  cases (show v = Value.ref a from rx)
  cases (show u = Value.ref b from ry)
  obtain ⟨us, r1, p1, _⟩ := I.list (.inl (.inl ha))
  obtain ⟨ws, r2, p2, _⟩ := I.list (.inl (.inl hb))
  have n1 := r1.length
  have n2 := r2.length
  cases xs with
  | nil =>
    cases us with
    | cons _ _ => cases n1
    | nil =>
      cases ws with
      | cons _ _ => cases n2
      | nil => exact SeqAt.RcNeAt.lists (e := fun _ => true) p1.isList p2.isList rfl hu (fun j h1 => absurd h1 (Nat.not_lt_zero _)) X.prog X.w _ _ ⟨.bl false, H, I, rfl, q⟩
  | cons x xs =>
    cases us with
    | nil => cases n1
    | cons u us =>
      cases ws with
      | cons _ _ => cases n2
      | nil => exact SeqAt.RcNeAt.lists_lengths p1.isList p2.isList (by simp) hu X.prog X.w _ _ ⟨.bl true, H, I, rfl, q⟩
def rES (f : Bool → Bool) : R2 := fun x y H Q => ∃ a b, x = V.str a ∧ y = V.str b ∧ Q (.bl (f (a == b))) H
theorem op_eqS : OpR X (compareOp .Eq) (rES id) := by
  intro pins s σ H x y v u Q I rx ry h
  obtain ⟨a, b, rfl, rfl, q⟩ := h
  obtain ⟨t, rfl⟩ := rx
  obtain ⟨t2, rfl⟩ := ry
  exact SeqAt.RcAt.str_str a t b t2 X.prog X.w _ _ ⟨.bl (a == b), H, I, rfl, q⟩
theorem op_neS : OpR X (compareOp .NotEq) (rES not) := by
  intro pins s σ H x y v u Q I rx ry h
  obtain ⟨a, b, rfl, rfl, q⟩ := h
  obtain ⟨t, rfl⟩ := rx
  obtain ⟨t2, rfl⟩ := ry
  exact SeqAt.RcNeAt.str_str a t b t2 X.prog X.w _ _ ⟨.bl (!(a == b)), H, I, rfl, q⟩
theorem isE_rq {K : PySem.W.Frag} {G H : Hp} {x y : V} {dx dy : PyData} {r : Bool} (h : isE dx dy = some r) (hx : Rq K G H x dx) (hy : Rq K G H y dy) : (∃ a b xs, x = V.ref a ∧ y = V.ref b ∧ H a = some (.lst xs) ∧ H b = some (.lst []) ∧ r = xs.isEmpty) ∨ ∃ a b, x = V.str a ∧ y = V.str b ∧ r = (a == b) := by
  unfold isE at h
  split at h
  · cases h
    obtain ⟨a, xs, rfl, ha, ra⟩ := hx
    obtain ⟨b, ys, rfl, hb, rb⟩ := hy
    cases rb
    refine .inl ⟨a, b, xs, rfl, rfl, ha, hb, ?_⟩
    cases ra <;> rfl
  · cases h
    cases hx
    cases hy
    exact .inr ⟨_, _, rfl, rfl, rfl⟩
  · cases h
theorem v_eq (hu : X.A.units + 64 < cLine) : OpV X ρ (compareOp .Eq) oEq := by
  refine ⟨_, OpR.or (op_eqD hu) (OpR.or (op_eqN (Nat.lt_of_le_of_lt (Nat.le_add_right _ _) hu)) op_eqS), fun π e σ w x y dx dy z Q m hx hy hz k => ?_⟩
  unfold oEq at hz
  split at hz
  · rename_i hc
    cases hz
    exact .inl ⟨dx, dy, hx.dp m.sub hc.1, hy.dp m.sub hc.2, hc.1, hc.2, sc_end m k (.bl _)⟩
  · cases hb : isE dx dy with
    | none => rw [hb] at hz; cases hz
    | some r =>
      rw [hb] at hz
      cases hz
      rcases isE_rq hb hx hy with ⟨a, b, xs, e1, e2, ha, hb2, rfl⟩ | ⟨a, b, e1, e2, rfl⟩
      · exact .inr (.inl ⟨a, b, xs, e1, e2, ha, hb2, sc_end m k (.bl _)⟩)
      · exact .inr (.inr ⟨a, b, e1, e2, sc_end m k (.bl _)⟩)
theorem v_ne (hu : X.A.units + 64 < cLine) : OpV X ρ (compareOp .NotEq) oNe := by
  refine ⟨_, OpR.or (op_neD hu) (OpR.or (op_neN (Nat.lt_of_le_of_lt (Nat.le_add_right _ _) hu)) op_neS), fun π e σ w x y dx dy z Q m hx hy hz k => ?_⟩
  unfold oNe at hz
  split at hz
  · rename_i hc
    cases hz
    exact .inl ⟨dx, dy, hx.dp m.sub hc.1, hy.dp m.sub hc.2, hc.1, hc.2, sc_end m k (.bl _)⟩
  · cases hb : isE dx dy with
    | none => rw [hb] at hz; cases hz
    | some r =>
      rw [hb] at hz
      cases hz
      rcases isE_rq hb hx hy with ⟨a, b, xs, e1, e2, ha, hb2, rfl⟩ | ⟨a, b, e1, e2, rfl⟩
      · exact .inr (.inl ⟨a, b, xs, e1, e2, ha, hb2, sc_end m k (.bl _)⟩)
      · exact .inr (.inr ⟨a, b, e1, e2, sc_end m k (.bl _)⟩)
theorem sign_of {a : Str} (h : a.cps.size = 1) : a = ⟨#[a.cps.getD 0 0]⟩ := by
  obtain ⟨l⟩ := a
  obtain ⟨l⟩ := l
  match l, h with
  | [c], _ => rfl
theorem v_in (hu : X.A.units + 65 < cLine) : OpV X ρ (compareOp .In) oIn := by
  refine ⟨_, OpR.or (op_inD hu) op_in_sign, fun π e σ w x y dx dy z Q m hx hy hz k => ?_⟩
  unfold oIn at hz
  split at hz
  · split at hz
    · rename_i hc
      cases hz
      exact .inl ⟨_, _, hx.dp m.sub hc.1, hy.dp m.sub hc.2, hc.1, hc.2, sc_end m k (.bl _)⟩
    · cases hz
  · split at hz
    · rename_i hc
      cases hz; cases hx; cases hy
      exact .inr ⟨_, _, congrArg V.str (sign_of hc), rfl, sc_end m k (.bl _)⟩
    · cases hz
  · cases hz
theorem v_notIn (hu : X.A.units + 65 < cLine) : OpV X ρ (compareOp .NotIn) oNotIn := by
  refine ⟨_, OpR.or (op_notInD hu) op_notIn_sign, fun π e σ w x y dx dy z Q m hx hy hz k => ?_⟩
  unfold oNotIn at hz
  split at hz
  · split at hz
    · rename_i hc
      cases hz
      exact .inl ⟨_, _, hx.dp m.sub hc.1, hy.dp m.sub hc.2, hc.1, hc.2, sc_end m k (.bl _)⟩
    · cases hz
  · split at hz
    · rename_i hc
      cases hz; cases hx; cases hy
      exact .inr ⟨_, _, congrArg V.str (sign_of hc), rfl, sc_end m k (.bl _)⟩
    · cases hz
  · cases hz
theorem v_is : OpV X ρ (compareOp .Is) oIs := by
  refine ⟨_, OpR.or op_isN op_isBl, fun π e σ w x y dx dy z Q m hx hy hz k => ?_⟩
  unfold oIs at hz
  split at hz
  · cases hz
    obtain rfl : y = .non := hy
    refine .inl ⟨rfl, ?_⟩
    have e1 : decide (x = V.non) = isNone dx := by
      cases dx with
      | none => cases hx; rfl
      | bool b => cases hx; rfl
      | int b => cases hx; rfl
      | str b => cases hx; rfl
      | list b => obtain ⟨a, xs, rfl, _⟩ := hx; rfl
      | tuple b => obtain ⟨a, xs, rfl, _⟩ := hx; rfl
      | dict b => obtain ⟨a, xs, rfl, _⟩ := hx; rfl
    rw [e1]
    exact sc_end m k (.bl _)
  · cases hz; cases hx; cases hy
    exact .inr ⟨_, _, rfl, rfl, sc_end m k (.bl _)⟩
  · cases hz
theorem rp_at {K : PySem.W.Frag} {G : Hp} {xs : List V} {ds : List PyData} {i : Int} {d : PyData} (r : RpAll K G xs ds) (h : atI ds i = some d) : ∃ v, atI xs i = some v ∧ Rp K G v d := by
  unfold atI at h ⊢
  rw [r.length]
  cases q : ixN ds.length i with
  | none => rw [q] at h; cases h
  | some j =>
    rw [q] at h
    exact r.get h
theorem ve_ix (ha : VE X ρ W a fa) (hb : VE X ρ W b fb) (hs : PlainIx b := by exact fun _ _ => rfl) : VE X ρ W (.Subscript a b pos) (fBin oIx fa fb) := by
  obtain ⟨t, p, s⟩ := ha
  obtain ⟨t2, p2, s2⟩ := hb
  refine ⟨_, pe_ix ix_seq p p2 hs, se_bin (fun π e σ w x y dx dy z Q m hx hy hz k => ?_) s s2⟩
  unfold oIx at hz
  split at hz
  · cases hy
    obtain ⟨q, xs, rfl, hq, rq⟩ := hx
    rename_i ds i
    cases hd : atI ds i with
    | none => rw [hd] at hz; cases hz
    | some d =>
      rw [hd] at hz
      cases hz
      obtain ⟨v, h1, h2⟩ := rp_at rq hd
      exact .inl ⟨q, xs, i, v, rfl, rfl, .of hq, h1, sc_end m k h2⟩
  · cases hy
    obtain ⟨q, xs, rfl, hq, rq⟩ := hx
    rename_i ds i
    cases hd : atI ds i with
    | none => rw [hd] at hz; cases hz
    | some d =>
      rw [hd] at hz
      cases hz
      obtain ⟨v, h1, h2⟩ := rp_at rq hd
      exact .inr (.inl ⟨q, xs, i, v, rfl, rfl, .of (m.sub _ _ hq), h1, sc_end m k h2⟩)
  · split at hz
    · rename_i zz i hb
      cases hx; cases hy
      cases hd : atI zz.cps.toList i with
      | none => rw [hd] at hz; cases hz
      | some d =>
        rw [hd] at hz
        cases hz
        exact .inr (.inr ⟨zz, i, d, rfl, rfl, le_big hb, hd, sc_end m k (.str _)⟩)
    · cases hz
  · cases hz
def VO (X : Cx) (ρ : Nat → Res) (W : WX) (e : Option Expr) (f : FO) : Prop := ∃ t, PO X e t ∧ ∀ π env σ w Q, Mt (cc X ρ) π env σ w → Post (cc X ρ) W π σ w (f env) (fun _ b b' => b = b') Q → t σ w.H Q
theorem vo_no : VO X ρ W none oNo := ⟨_, po_none, fun π e σ w Q m h => h none w m (.refl w) rfl⟩
theorem vo_some (ha : VE X ρ W a fa) : VO X ρ W (some a) (oSome fa) := by
  obtain ⟨t, p, s⟩ := ha
  refine ⟨_, po_some p, fun π e σ w Q m h => ?_⟩
  refine s π e σ w _ m (h.bnd fun o1 e1 v1 w1 m1 f1 k1 h1 => ?_)
  cases q1 : res e1 o1 with
  | none => rw [q1] at h1; exact h1.elim
  | some d1 =>
    rw [q1] at h1
    have r := res_sound m1 k1 q1
    split at h1
    · rename_i bb z; cases z; cases r
      exact ⟨_, rfl, h1 _ w1 m1 f1 rfl⟩
    · exact h1.elim
theorem ve_sl {lo hi : Option Expr} {fl fh : FO} {p2 : Pos} (ha : VE X ρ W a fa) (hl : VO X ρ W lo fl) (hh : VO X ρ W hi fh) : VE X ρ W (.Subscript a (.Slice lo hi none p2) pos) (fSl fa fl fh) := by
  obtain ⟨t, p, s⟩ := ha
  obtain ⟨t1, p1, s1⟩ := hl
  obtain ⟨t2, p2', s2⟩ := hh
  refine ⟨_, pe_slice (SlR.or sl_list sl_str) p p1 p2', fun π e σ w Q m h => ?_⟩
  refine s π e σ w _ m (h.bnd fun o1 e1 v1 w1 m1 f1 k1 h1 => ?_)
  refine s1 π e1 σ w1 _ m1 ((h1.from f1).bnd fun l e2 l' w2 m2 f2 k2 h2 => ?_)
  subst k2
  refine s2 π e2 σ w2 _ m2 ((h2.from f2).bnd fun u e3 u' w3 m3 f3 k3 h3 => ?_)
  subst k3
  have h4 := h3.from f3
  cases q1 : res e3 o1 with
  | none => rw [q1] at h4; exact h4.elim
  | some d1 =>
    rw [q1] at h4
    simp only [Option.bind_some] at h4
    have r := res_sound m3 ((k1.step f2).step f3) q1
    cases q2 : oSl d1 l u with
    | none => rw [q2] at h4; exact h4.elim
    | some z =>
      rw [q2] at h4
      cases d1 with
      | list ds =>
        cases q2
        obtain ⟨q, xs, rfl, hq, rq⟩ := r
        refine .inl ⟨q, xs, rfl, .of hq, fun p hp => ?_⟩
        have rz : RpAll X.K w3.G (cutV xs l u) (cutD ds l u) := by
          unfold cutV cutD
          rw [rq.length]
          exact (rq.drop _).take _
        obtain ⟨m5, f5, k5⟩ := mk_lst m3 hp rz
        exact h4 _ _ m5 f5 (k5.base ((f1.trans f2).trans f3))
      | str zz =>
        have q2' : (if zz.length ≤ big then some (B.fr (.str (cutS zz l u))) else none) = some z := q2
        split at q2'
        · rename_i hb
          cases q2'; cases r
          exact .inr ⟨_, rfl, le_big hb, h4 _ w3 m3 (.refl _) (.fr (.str _))⟩
        · cases q2'
      | none => cases q2
      | bool i => cases q2
      | int i => cases q2
      | tuple i => cases q2
      | dict i => cases q2
end
end VL
set_option maxRecDepth 100000
namespace VL
open PySem L2
section
variable {X : Cx} {ρ : Nat → Res} {W : WX} {a b c : Expr} {es : List Expr} {pos p : Pos} {fa fb fc : FE} {ta tb tc : FT} {fd : FD} {as_ : FA}
theorem va_nil : VA X ρ W [] aNil := ⟨_, pa_nil, fun π e σ w Q m h => h [] w m (.refl w) .nil⟩
theorem paired_base {C : Cc} {σ : St} {w w1 w' : WS} (f : Frm w w1) : ∀ {os : List O} {vs : List V}, Paired (OOk C σ w1 w') os vs → Paired (OOk C σ w w') os vs
  | _, _, .nil => .nil
  | _, _, .cons h t => .cons (h.base f) (paired_base f t)
theorem va_cons (ha : VE X ρ W a fa) (hr : VA X ρ W es as_) (hs : starEach (a :: es) X.env = (false, eval a X.env) :: starEach es X.env := by rfl) : VA X ρ W (a :: es) (aCons fa as_) := by
  obtain ⟨t, p, s⟩ := ha
  obtain ⟨t2, p2, s2⟩ := hr
  refine ⟨_, pa_cons p p2 hs, fun π e σ w Q m h => ?_⟩
  refine s π e σ w _ m (h.bnd fun o1 e1 v1 w1 m1 f1 k1 h1 => ?_)
  refine s2 π e1 σ w1 _ m1 ((h1.from f1).bnd fun os e3 vs w3 m3 f3 k3 h3 => ?_)
  exact h3.from f3 (v1 :: vs) w3 m3 (.refl _) (.cons (k1.step f3) (paired_base f1 k3))
/-- all read -/
inductive RqAll (K : PySem.W.Frag) (G H : Hp) : List V → List PyData → Prop
  | nil : RqAll K G H [] []
  | cons {v vs d ds} : Rq K G H v d → RqAll K G H vs ds → RqAll K G H (v :: vs) (d :: ds)
theorem resAll_sound {C : Cc} {π : List (Nat × V)} {e : Env} {σ : St} {w0 w : WS} (m : Mt C π e σ w) : ∀ {os : List O} {vs : List V} {ds : List PyData}, Paired (OOk C σ w0 w) os vs → resAll e os = some ds → RqAll C.K w.G w.H vs ds
  | _, _, ds, .nil, h => by cases h; exact .nil
  | o :: os, v :: vs, ds, .cons h t, hr => by
    unfold resAll at hr
    cases q : res e o with
    | none => rw [q] at hr; cases hr
    | some d =>
      rw [q] at hr
      cases q2 : resAll e os with
      | none => rw [q2] at hr; cases hr
      | some es =>
        rw [q2] at hr
        cases hr
        exact .cons (res_sound m h q) (resAll_sound m t q2)
def CallV (X : Cx) (ρ : Nat → Res) (v : Value) (g : List PyData → Option B) : Prop := ∃ r, CallR X v r ∧
  ∀ π e σ w xs ds z Q, Mt (cc X ρ) π e σ w → RqAll X.K w.G w.H xs ds → g ds = some z → (∀ v w', Mt (cc X ρ) π e σ w' → Frm w w' → OOk (cc X ρ) σ w w' (.b z) v → Q v w'.H) → r xs w.H Q
theorem se_cb {C : Cc} {r : List V → Hp → VK → Prop} {g : List PyData → Option B} {ta : TA} (hr : ∀ π e σ w xs ds z Q, Mt C π e σ w → RqAll C.K w.G w.H xs ds → g ds = some z → (∀ v w', Mt C π e σ w' → Frm w w' → OOk C σ w w' (.b z) v → Q v w'.H) → r xs w.H Q)
    (ha : SA C W ta as_) : SE C W (tCB r ta) (fCB g as_) := fun π e σ w Q m h => by
  refine ha π e σ w _ m (h.bnd fun os e1 vs w1 m1 f1 k1 h1 => ?_)
  have h3 := h1.from f1
  cases q1 : resAll e1 os with
  | none => rw [q1] at h3; exact h3.elim
  | some d1 =>
    rw [q1] at h3
    simp only [Option.bind_some] at h3
    cases q3 : g d1 with
    | none => rw [q3] at h3; exact h3.elim
    | some z =>
      rw [q3] at h3
      exact hr π e1 σ w1 vs d1 z Q m1 (resAll_sound m1 k1 q1) q3 fun v w' m' f' k' => h3 v w' m' f' (k'.base f1)
theorem ve_cb {id : String} {x : Str} {g : List PyData → Option B} (hc : CallV X ρ (.builtin id) g) (hm : X.mg x = none) (hv : bootBuiltins x = some (.builtin id)) (ha : VA X ρ W (a :: es) as_) (hg : Gl X x := by rfl) (hn : x ≠ "__name__" := by decide) (hdb : (x == ("__debug__" : Str)) = false := by decide)
    (he : starEach (a :: es) X.env = (false, eval a X.env) :: starEach es X.env := by rfl) (hpl : (backTo pos (starEach es X.env)).any (·.1) = false := by rfl) : VE X ρ W (.Call (.Name x p) (a :: es) [] pos) (fCB g as_) := by
  obtain ⟨r, h1, h2⟩ := hc
  obtain ⟨t, pa, s⟩ := ha
  exact ⟨_, pe_callB h1 hg hm hv pa hn hdb he hpl, se_cb h2 s⟩
theorem ve_ct {T : String} {x : Str} {g : List PyData → Option B} (hc : CallV X ρ (.type T) g) (hm : X.mg x = none) (hv : bootBuiltins x = some (.type T)) (ha : VA X ρ W (a :: es) as_) (hg : Gl X x := by rfl) (hn : x ≠ "__name__" := by decide) (hdb : (x == ("__debug__" : Str)) = false := by decide)
    (he : starEach (a :: es) X.env = (false, eval a X.env) :: starEach es X.env := by rfl) (hpl : (backTo pos (starEach es X.env)).any (·.1) = false := by rfl) : VE X ρ W (.Call (.Name x p) (a :: es) [] pos) (fCB g as_) := by
  obtain ⟨r, h1, h2⟩ := hc
  obtain ⟨t, pa, s⟩ := ha
  exact ⟨_, pe_callTy h1 hg hm hv pa hn hdb he hpl, se_cb h2 s⟩
theorem ints_of {K : PySem.W.Frag} {G : Hp} : ∀ {ds : List PyData} {ns : List Int} {xs : List V}, asInts ds = some ns → RpAll K G xs ds → xs = ns.map V.int ∧ ds = ns.map .int
  | [], ns, xs, h, r => by cases h; cases r; exact ⟨rfl, rfl⟩
  | .int i :: ds, ns, xs, h, r => by
    unfold asInts at h
    cases q : asInts ds with
    | none => rw [q] at h; cases h
    | some ms =>
      rw [q] at h
      cases h
      cases r with
      | cons r1 r2 =>
        cases r1
        obtain ⟨e1, e2⟩ := ints_of q r2
        exact ⟨by rw [e1]; rfl, by rw [e2]; rfl⟩
  | .none :: ds, ns, xs, h, r => by cases h
  | .bool _ :: ds, ns, xs, h, r => by cases h
  | .str _ :: ds, ns, xs, h, r => by cases h
  | .list _ :: ds, ns, xs, h, r => by cases h
  | .tuple _ :: ds, ns, xs, h, r => by cases h
  | .dict _ :: ds, ns, xs, h, r => by cases h
theorem rp_ints {K : PySem.W.Frag} {G : Hp} : ∀ ns : List Int, RpAll K G (ns.map V.int) (ns.map .int)
  | [] => .nil
  | n :: ns => .cons (.int n) (rp_ints ns)
theorem fold_max_mem (x : Int) : ∀ xs : List Int, xs.foldl max x ∈ x :: xs ∧ ∀ y ∈ x :: xs, y ≤ xs.foldl max x := by
  intro xs
  induction xs generalizing x with
  | nil => exact ⟨by simp, fun y h => by simp at h; subst h; exact Int.le_refl _⟩
  | cons z xs ih =>
    obtain ⟨h1, h2⟩ := ih (max x z)
    show xs.foldl max (max x z) ∈ _ ∧ _
    refine ⟨?_, fun y hy => ?_⟩
    · rcases List.mem_cons.mp h1 with e | e
      · rw [e]
        by_cases hz : z ≤ x
        · rw [Int.max_eq_left hz]; simp
        · rw [Int.max_eq_right (by omega)]; simp
      · exact List.mem_cons_of_mem _ (List.mem_cons_of_mem _ e)
    · have hm := h2 (max x z) (by simp)
      rcases List.mem_cons.mp hy with e | hy
      · subst e; exact Int.le_trans (Int.le_max_left _ _) hm
      · rcases List.mem_cons.mp hy with e | hy
        · subst e; exact Int.le_trans (Int.le_max_right _ _) hm
        · exact h2 y (List.mem_cons_of_mem _ hy)
theorem fold_min_mem (x : Int) : ∀ xs : List Int, xs.foldl min x ∈ x :: xs ∧ ∀ y ∈ x :: xs, xs.foldl min x ≤ y := by
  intro xs
  induction xs generalizing x with
  | nil => exact ⟨by simp, fun y h => by simp at h; subst h; exact Int.le_refl _⟩
  | cons z xs ih =>
    obtain ⟨h1, h2⟩ := ih (min x z)
    show xs.foldl min (min x z) ∈ _ ∧ _
    refine ⟨?_, fun y hy => ?_⟩
    · rcases List.mem_cons.mp h1 with e | e
      · rw [e]
        by_cases hz : x ≤ z
        · rw [Int.min_eq_left hz]; simp
        · rw [Int.min_eq_right (by omega)]; simp
      · exact List.mem_cons_of_mem _ (List.mem_cons_of_mem _ e)
    · have hm := h2 (min x z) (by simp)
      rcases List.mem_cons.mp hy with e | hy
      · subst e; exact Int.le_trans hm (Int.min_le_left _ _)
      · rcases List.mem_cons.mp hy with e | hy
        · subst e; exact Int.le_trans hm (Int.min_le_right _ _)
        · exact h2 y (List.mem_cons_of_mem _ hy)
theorem maxI_uniq {ns : List Int} {m : Int} (hne : ns ≠ []) (h1 : m ∈ ns) (h2 : ∀ y, y ∈ ns → y ≤ m) : m = maxI ns := by
  cases ns with
  | nil => exact absurd rfl hne
  | cons x xs =>
    obtain ⟨k1, k2⟩ := fold_max_mem x xs
    exact Int.le_antisymm (k2 m h1) (h2 _ k1)
theorem minI_uniq {ns : List Int} {m : Int} (hne : ns ≠ []) (h1 : m ∈ ns) (h2 : ∀ y, y ∈ ns → m ≤ y) : m = minI ns := by
  cases ns with
  | nil => exact absurd rfl hne
  | cons x xs =>
    obtain ⟨k1, k2⟩ := fold_min_mem x xs
    exact Int.le_antisymm (h2 _ k1) (k2 m h1)
theorem v_len : CallV X ρ (.builtin "len") gLen := by
  refine ⟨_, CallR.or call_len_seq (CallR.or call_len_str call_lenD), fun π e σ w xs ds z Q m hx hz k => ?_⟩
  unfold gLen at hz
  split at hz
  · cases hz
    cases hx with
    | cons r t =>
      cases t
      obtain ⟨q, ys, rfl, hq, rq⟩ := r
      refine .inl ⟨q, ys, rfl, .inl (.of hq), ?_⟩
      rw [rq.length]
      exact sc_end m k (.int _)
  · cases hz
    cases hx with
    | cons r t =>
      cases t
      obtain ⟨q, ys, rfl, hq, rq⟩ := r
      refine .inl ⟨q, ys, rfl, .inr (.of (m.sub _ _ hq)), ?_⟩
      rw [rq.length]
      exact sc_end m k (.int _)
  · split at hz
    · rename_i hb
      cases hz
      cases hx with
      | cons r t =>
        cases t
        cases r
        exact .inr (.inl ⟨_, rfl, le_big hb, sc_end m k (.int _)⟩)
    · cases hz
  · cases hz
    cases hx with
    | cons r t =>
      cases t
      obtain ⟨q, ys, rfl, hq, e1, rq⟩ := r
      refine .inr (.inr ⟨q, ys, rfl, hq, ?_⟩)
      have e2 := congrArg List.length e1
      rw [List.length_map, List.length_map] at e2
      rw [e2]
      exact sc_end m k (.int _)
  · cases hz
theorem v_max (hc : X.calm = true) : CallV X ρ (.builtin "max") gMax := by
  refine ⟨_, CallR.or (call_max2 hc) (cr_max hc), fun π e σ w xs ds z Q m hx hz k => ?_⟩
  unfold gMax at hz
  split at hz
  · cases hz
    cases hx with
    | cons r t =>
      cases t with
      | cons r2 t =>
        cases t
        cases r
        cases r2
        exact .inl ⟨_, _, rfl, sc_end m k (.int _)⟩
  · rename_i d ds
    cases q : asInts (d :: ds) with
    | none => rw [q] at hz; cases hz
    | some ns =>
      rw [q] at hz
      cases hz
      cases hx with
      | cons r t =>
        cases t
        obtain ⟨p, ys, rfl, hp, rp⟩ := r
        obtain ⟨e1, e2⟩ := ints_of q rp
        subst e1
        have hne : ns ≠ [] := by
          rintro rfl
          cases e2
        refine .inr ⟨p, ns, rfl, .of hp, List.length_pos_iff.mpr hne, fun mm h1 h2 => ?_⟩
        rw [maxI_uniq hne h1 h2]
        exact sc_end m k (.int _)
  · cases hz
theorem v_min (hc : X.calm = true) : CallV X ρ (.builtin "min") gMin := by
  refine ⟨_, CallR.or (call_min2 hc) (cr_min hc), fun π e σ w xs ds z Q m hx hz k => ?_⟩
  unfold gMin at hz
  split at hz
  · cases hz
    cases hx with
    | cons r t =>
      cases t with
      | cons r2 t =>
        cases t
        cases r
        cases r2
        exact .inl ⟨_, _, rfl, sc_end m k (.int _)⟩
  · rename_i d ds
    cases q : asInts (d :: ds) with
    | none => rw [q] at hz; cases hz
    | some ns =>
      rw [q] at hz
      cases hz
      cases hx with
      | cons r t =>
        cases t
        obtain ⟨p, ys, rfl, hp, rp⟩ := r
        obtain ⟨e1, e2⟩ := ints_of q rp
        subst e1
        have hne : ns ≠ [] := by
          rintro rfl
          cases e2
        refine .inr ⟨p, ns, rfl, .of hp, List.length_pos_iff.mpr hne, fun mm h1 h2 => ?_⟩
        rw [minI_uniq hne h1 h2]
        exact sc_end m k (.int _)
  · cases hz
theorem v_int : CallV X ρ (.type "int") gInt := by
  refine ⟨_, call_int1, fun π e σ w xs ds z Q m hx hz k => ?_⟩
  unfold gInt at hz
  split at hz
  · cases hz
    cases hx with
    | cons r t =>
      cases t
      cases r
      exact .inl ⟨_, rfl, sc_end m k (.int _)⟩
  · cases hz
    cases hx with
    | cons r t =>
      cases t
      cases r
      exact .inr ⟨_, rfl, sc_end m k (.int _)⟩
  · cases hz
theorem sorted_uniq {ns ms : List Int} (h1 : ms.Perm ns) (h2 : ms.Pairwise (· ≤ ·)) : ms = ns.mergeSort leI := by
  have t : ∀ a b c : Int, leI a b = true → leI b c = true → leI a c = true := fun a b c x y => by unfold leI at *; simp only [decide_eq_true_eq] at *; omega
  have tt : ∀ a b : Int, (leI a b || leI b a) = true := fun a b => by unfold leI; simp only [Bool.or_eq_true, decide_eq_true_eq]; omega
  have h3 := List.pairwise_mergeSort t tt ns
  have h4 := List.mergeSort_perm ns leI
  refine List.Perm.eq_of_pairwise (le := fun a b : Int => a ≤ b) (fun a b _ _ x y => Int.le_antisymm x y) h2 ?_ (h1.trans h4.symm)
  exact h3.imp fun {a b} h => by unfold leI at h; exact of_decide_eq_true h
theorem v_sorted : CallV X ρ (.builtin "sorted") gSorted := by
  refine ⟨_, cr_sortedI, fun π e σ w xs ds z Q m hx hz k => ?_⟩
  unfold gSorted at hz
  split at hz
  · rename_i ds
    cases q : asInts ds with
    | none => rw [q] at hz; cases hz
    | some ns =>
      rw [q] at hz
      cases hz
      cases hx with
      | cons r t =>
        cases t
        obtain ⟨p, ys, rfl, hp, rp⟩ := r
        obtain ⟨e1, e2⟩ := ints_of q rp
        subst e1
        refine ⟨p, ns, rfl, .of hp, fun ms r h1 h2 hr => ?_⟩
        rw [sorted_uniq h1 h2]
        obtain ⟨m5, f5, k5⟩ := mk_lst m hr (rp_ints _)
        exact k _ _ m5 f5 k5
  · cases hz
end
end VL
set_option maxRecDepth 100000
namespace VL
open PySem L2
section
variable {C : Cc} {π : List (Nat × V)} {e : Env} {σ : St} {w : WS}
theorem at_forget : ∀ {vs : List Nat} {e : Env} {i : Nat} {b : B}, at? (forget vs e) i = some b → at? e i = some b ∧ i ∉ vs
  | [], e, i, b, h => ⟨h, by simp⟩
  | v :: vs, e, i, b, h => by
    obtain ⟨h1, h2⟩ := at_forget (vs := vs) (e := e.set v none) h
    by_cases z : v = i
    · subst z
      unfold at? at h1
      by_cases hv : v < e.length
      · rw [List.getElem?_set_self hv] at h1; cases h1
      · rw [List.getElem?_eq_none (by simpa using hv)] at h1; cases h1
    · rw [at_set_ne z] at h1
      exact ⟨h1, by simp only [List.mem_cons, not_or]; exact ⟨fun q => z q.symm, h2⟩⟩
theorem forget_length : ∀ (vs : List Nat) (e : Env), (forget vs e).length = e.length
  | [], e => rfl
  | v :: vs, e => by
    show (forget vs (e.set v none)).length = e.length
    rw [forget_length vs, List.length_set]
/-- fewer names -/
theorem Mt.less {e' : Env} (m : Mt C π e σ w) (hl : e'.length = e.length) (h : ∀ i b, at? e' i = some b → at? e i = some b) : ∃ w', Mt C π e' σ w' ∧ Frm w w' ∧ w'.H = w.H ∧ w'.G = w.G ∧ ∀ i a, w'.fp i a → w.fp i a := by
  refine ⟨{ w with fp := fun i a => (at? e' i).isSome = true ∧ w.fp i a }, ⟨hl.trans m.len, m.sub, fun i b q => ?_, fun i q a z => ?_, fun i j a x y => m.dis i j a x.2 y.2, m.pin⟩, ⟨Same.refl _, fun a o h1 n => ⟨h1, rfl, fun i z => n i z.2⟩, fun _ h => h⟩, rfl, rfl, fun i a z => z.2⟩
  · obtain ⟨v, h1, h2⟩ := m.bok i b (h i b q)
    refine ⟨v, h1, ?_⟩
    have e1 : (fun a => (at? e' i).isSome = true ∧ w.fp i a) = w.fp i := by
      funext a
      exact propext ⟨fun z => z.2, fun z => ⟨by rw [q]; rfl, z⟩⟩
    show BOk C w.G w.H b v (fun a => (at? e' i).isSome = true ∧ w.fp i a)
    rw [e1]
    exact h2
  · have z1 : (at? e' i).isSome = true := z.1
    rw [q] at z1
    cases z1
theorem Mt.forget {vs : List Nat} (m : Mt C π e σ w) : ∃ w', Mt C π (forget vs e) σ w' ∧ Frm w w' ∧ w'.H = w.H ∧ w'.G = w.G ∧ ∀ i a, w'.fp i a → w.fp i a :=
  m.less (forget_length vs e) fun _ _ h => (at_forget h).1
/-- a name bound -/
theorem Mt.bind {w0 : WS} {i : Nat} {b : B} {v : V} {fp : Addr → Prop} (m : Mt C π e σ w) (f : Frm w0 w) (hp : ∀ p ∈ π, p.1 ≠ i) (hb : BOk C w.G w.H b v fp) (hf : ∀ a, fp a → (w0.H a = none ∨ ∃ i, w0.fp i a) ∧ ∀ j, ¬ w.fp j a) :
    ∃ w', Mt C π (e.set i (some b)) (σ.set i (some v)) w' ∧ Frm w0 w' ∧ w'.H = w.H ∧ w'.G = w.G := by
  by_cases hi : i < e.length
  case neg =>
    rw [List.set_eq_of_length_le (by omega), List.set_eq_of_length_le (by rw [← m.len]; omega)]
    exact ⟨w, m, f, rfl, rfl⟩
  have hi' : i < σ.length := by rw [← m.len]; exact hi
  refine ⟨{ w with fp := fun j a => if j = i then fp a else w.fp j a }, ⟨by rw [List.length_set, List.length_set]; exact m.len, m.sub, fun j c q => ?_, fun j q a z => ?_, fun j k a x y => ?_, fun p h => ?_⟩, ⟨f.g, fun a o h n => ?_, f.t⟩, rfl, rfl⟩
  · by_cases hj : i = j
    · subst hj
      rw [at_set_lt hi] at q
      cases q
      refine ⟨v, List.getElem?_set_self hi', ?_⟩
      have e1 : (fun a => if i = i then fp a else w.fp i a) = fp := by funext a; rw [if_pos rfl]
      show BOk C w.G w.H b v (fun a => if i = i then fp a else w.fp i a)
      rw [e1]
      exact hb
    · rw [at_set_ne hj] at q
      obtain ⟨u, h1, h2⟩ := m.bok j c q
      refine ⟨u, by rw [List.getElem?_set_ne hj]; exact h1, ?_⟩
      have e1 : (fun a => if j = i then fp a else w.fp j a) = w.fp j := by funext a; rw [if_neg (Ne.symm hj)]
      show BOk C w.G w.H c u (fun a => if j = i then fp a else w.fp j a)
      rw [e1]
      exact h2
  · by_cases hj : i = j
    · subst hj
      rw [at_set_lt hi] at q
      cases q
    · rw [at_set_ne hj] at q
      have z' : if j = i then fp a else w.fp j a := z
      rw [if_neg (Ne.symm hj)] at z'
      exact m.non j q a z'
  · have x' : if j = i then fp a else w.fp j a := x
    have y' : if k = i then fp a else w.fp k a := y
    by_cases hj : j = i
    · by_cases hk : k = i
      · rw [hj, hk]
      · rw [if_pos hj] at x'
        rw [if_neg hk] at y'
        exact absurd y' ((hf a x').2 k)
    · by_cases hk : k = i
      · rw [if_neg hj] at x'
        rw [if_pos hk] at y'
        exact absurd x' ((hf a y').2 j)
      · rw [if_neg hj] at x'
        rw [if_neg hk] at y'
        exact m.dis j k a x' y'
  · rw [List.getElem?_set_ne (fun z => hp p h z.symm)]
    exact m.pin p h
  · obtain ⟨h1, h2, h3⟩ := f.k a o h n
    refine ⟨h1, h2, fun j z => ?_⟩
    have z' : if j = i then fp a else w.fp j a := z
    by_cases hj : j = i
    · rw [if_pos hj] at z'
      rcases (hf a z').1 with q | ⟨k, q⟩
      · rw [h] at q; cases q
      · exact n k q
    · rw [if_neg hj] at z'
      exact h3 j z'
/-- a name's slot set where the old value was owned: its things are let go -/
theorem Mt.drop {i : Nat} (m : Mt C π e σ w) : ∃ w', Mt C π (e.set i none) σ w' ∧ Frm w w' ∧ w'.H = w.H ∧ w'.G = w.G ∧ ∀ j a, w'.fp j a → w.fp j a := by
  refine m.less (List.length_set) fun j b h => ?_
  by_cases hj : i = j
  · subst hj
    by_cases hi : i < e.length
    · rw [at_set_lt hi] at h; cases h
    · unfold at? at h
      rw [List.getElem?_eq_none (by simpa using hi)] at h; cases h
  · rw [at_set_ne hj] at h; exact h
end
section
variable {X : Cx} {ρ : Nat → Res} {W : WX} {pn : List Nat} {st : Stmt} {rest : List Stmt} {a b c : Expr} {es : List Expr} {pos p : Pos} {fa fb fc : FE} {ta tb tc : FT} {fd : FD} {as_ : FA} {f g : FS}
def VS (X : Cx) (ρ : Nat → Res) (W : WX) (pn : List Nat) (st : Stmt) (f : FS) : Prop := ∃ t, PS X st t ∧ SS (cc X ρ) W pn t f
def VSs (X : Cx) (ρ : Nat → Res) (W : WX) (pn : List Nat) (st : List Stmt) (f : FS) : Prop := ∃ t, PSs X st t ∧ SS (cc X ρ) W pn t f
theorem vss_nil : VSs X ρ W pn [] sNil := ⟨_, pss_nil, fun π e σ w D hp m h => h σ w m (.refl w)⟩
theorem vss_one (h : VS X ρ W pn st f) : VSs X ρ W pn [st] f := by
  obtain ⟨t, p, s⟩ := h
  exact ⟨t, pss_one p, s⟩
theorem vss_cons (h : VS X ρ W pn st f) (hr : VSs X ρ W pn rest g) : VSs X ρ W pn (st :: rest) (sSeq f g) := by
  obtain ⟨t, p, s⟩ := h
  obtain ⟨t2, p2, s2⟩ := hr
  refine ⟨_, pss_cons p p2, fun π e σ w D hp m h => ?_⟩
  refine s π e σ w _ hp m ?_
  unfold sSeq at h
  cases q : f e with
  | none => rw [q] at h; exact h.elim
  | some x =>
    rw [q] at h
    cases x with
    | nx e1 => exact fun σ' w' m' f' => s2 π e1 σ' w' D hp m' (h.from f')
    | rt b e1 => exact h
    | bk e1 => exact h
    | ct e1 => exact h
    | ex c e1 => exact h
theorem vs_expr (he : VE X ρ W a fa) (hs : swapsWith a none pos.line X.env = pure false := by rfl) : VS X ρ W pn (.Expr a pos) (sExpr fa) := by
  obtain ⟨t, p, s⟩ := he
  refine ⟨_, ps_expr p hs, fun π e σ w D hp m h => ?_⟩
  refine s π e σ w _ m (h.bnd fun o1 e1 v1 w1 m1 f1 k1 h1 => ?_)
  exact h1 σ w1 m1 f1
theorem vs_if {sa sb : List Stmt} (hc : VT X ρ W a ta) (ha : VSs X ρ W pn sa f) (hb : VSs X ρ W pn sb g) : VS X ρ W pn (.If a sa sb pos) (sIf ta f g) := by
  obtain ⟨t, p, s⟩ := hc
  obtain ⟨t2, p2, s2⟩ := ha
  obtain ⟨t3, p3, s3⟩ := hb
  refine ⟨_, ps_if p p2 p3, fun π e σ w D hp m h => ?_⟩
  refine s π e σ w _ m (h.bnd fun o1 e1 v1 w1 m1 f1 k1 h1 => ?_)
  subst k1
  cases o1 with
  | true => rw [if_pos rfl]; exact s2 π e1 σ w1 D hp m1 (h1.from f1)
  | false => rw [if_neg Bool.false_ne_true]; exact s3 π e1 σ w1 D hp m1 (h1.from f1)
theorem ss_asg {C : Cc} {t : TE} {i : Nat} (hi : i ∉ pn) (s : SE C W t fa) : SS C W pn (tAsg t (gName i)) (sAsg i fa) := fun π e σ w D hp m h => by
  refine s π e σ w _ m (h.bnd fun o1 e1 v1 w1 m1 f1 k1 h1 => ?_)
  cases q : fzB e1 o1 with
  | none => rw [q] at h1; exact h1.elim
  | some pr =>
    rw [q] at h1
    obtain ⟨w2, m2, f2, eH, hb⟩ := fzB_sound (e' := pr.2) m1 f1 k1 q
    obtain ⟨w3, m3, f3, eH3, _⟩ := m2.bind f2 (fun p h (z : p.1 = i) => hi (z ▸ hp p h)) hb (fun _ z => z.elim)
    rw [← eH, ← eH3]
    exact h1 _ w3 m3 f3
theorem ss_own {C : Cc} {t : TE} {i : Nat} (hi : i ∉ pn) (s : SE C W t fa) : SS C W pn (tAsg t (gName i)) (sOwn i fa) := fun π e σ w D hp m h => by
  refine s π e σ w _ m (h.bnd fun o1 e1 v1 w1 m1 f1 k1 h1 => ?_)
  cases o1 with
  | s j => exact h1.elim
  | b b =>
    obtain ⟨fp, hb, hf⟩ := k1
    obtain ⟨w3, m3, f3, eH3, _⟩ := m1.bind f1 (fun p h (z : p.1 = i) => hi (z ▸ hp p h)) hb hf
    rw [← eH3]
    exact h1 _ w3 m3 f3
theorem vs_asg (V0 : X.N.Nodup) (i : Nat) {x : Str} {pos' : Pos} (he : VE X ρ W a fa) (hi : X.N[i]? = some x := by rfl) (hp : i ∉ pn := by decide) (hx : Loc X.env.scope x := by first | exact Or.inl rfl | exact Or.inr rfl) (hs : swapsWith a (some (.Name x pos')) pos.line X.env = pure false := by rfl)
    (hf : X.fn x = true ∨ X.env.scope.names.lookup x = some .local := by first | exact .inl rfl | exact .inr rfl) : VS X ρ W pn (.Assign [.Name x pos'] a pos) (sAsg i fa) := by
  obtain ⟨t, p, s⟩ := he
  exact ⟨_, ps_set V0 hi hx p hs hf, ss_asg hp s⟩
theorem vs_own (V0 : X.N.Nodup) (i : Nat) {x : Str} {pos' : Pos} (he : VE X ρ W a fa) (hi : X.N[i]? = some x := by rfl) (hp : i ∉ pn := by decide) (hx : Loc X.env.scope x := by first | exact Or.inl rfl | exact Or.inr rfl) (hs : swapsWith a (some (.Name x pos')) pos.line X.env = pure false := by rfl)
    (hf : X.fn x = true ∨ X.env.scope.names.lookup x = some .local := by first | exact .inl rfl | exact .inr rfl) : VS X ρ W pn (.Assign [.Name x pos'] a pos) (sOwn i fa) := by
  obtain ⟨t, p, s⟩ := he
  exact ⟨_, ps_set V0 hi hx p hs hf, ss_own hp s⟩
theorem vs_retO (he : VE X ρ W a fa) : VS X ρ W pn (.Return (some a) pos) (sRetO fa) := by
  obtain ⟨t, p, s⟩ := he
  refine ⟨_, ps_ret p, fun π e σ w D hp m h => ?_⟩
  refine s π e σ w _ m (h.bnd fun o1 e1 v1 w1 m1 f1 k1 h1 => ?_)
  cases o1 with
  | b b => exact h1 v1 σ w1 m1 f1 k1
  | s i =>
    cases q : at? e1 i with
    | none => simp only [q, Option.bind_none] at h1; exact h1.elim
    | some b =>
      simp only [q, Option.bind_some] at h1
      have hv : σ[i]? = some (some v1) := k1
      obtain ⟨u, g1, g2⟩ := m1.bok i b q
      rw [hv] at g1
      cases g1
      obtain ⟨w2, m2, f2, eH, eG, hl⟩ := m1.drop (i := i)
      rw [← eH]
      refine h1 v1 σ w2 m2 (f1.trans f2) ⟨w1.fp i, by rw [eG, eH]; exact g2, fun a ha => ⟨f1.back (.inr ⟨i, ha⟩), fun j z => ?_⟩⟩
      have hj := m1.dis i j a ha (hl j a z)
      subst hj
      have hi : i < e1.length := by
        unfold at? at q
        cases q2 : e1[i]? with
        | none => rw [q2] at q; cases q
        | some y => exact (List.getElem?_eq_some_iff.mp q2).1
      exact m2.non i (at_set_lt hi) a z
def ItOk (C : Cc) (G : Hp) (J : It) (ds : List PyData) : Prop := ∀ i π e σ w, Mt C π e σ w → Same G w.G → (i < ds.length → J.go i w.H) ∧ (ds.length ≤ i → J.stop i w.H) ∧
  ∀ x H', J.yld i w.H x H' → ∀ d, ds[i]? = some d → ∃ w', Mt C π e σ w' ∧ Frm w w' ∧ w'.H = H' ∧ Rp C.K w'.G x d
def SI (C : Cc) (W : WX) (wi : TI) (f : FI) : Prop := ∀ π e σ w (R : It → Hp → Prop), Mt C π e σ w → Post C W π σ w (f e) (fun w' ds J => ItOk C w'.G J ds) R → wi σ w.H R
def VI (X : Cx) (ρ : Nat → Res) (W : WX) (tg iter : Expr) (f : FI) : Prop := ∃ wi, PI X tg iter wi ∧ SI (cc X ρ) W wi f
theorem it_list {C : Cc} {G : Hp} {p : Addr} {xs : List V} {ds : List PyData} (h : G p = some (.lst xs)) (r : RpAll C.K G xs ds) : ItOk C G (Itl C.K p) ds := fun i π e σ w m s => by
  have hH : w.H p = some (.lst xs) := m.sub _ _ (s _ _ h)
  have hl := r.length
  refine ⟨fun hi => ⟨xs, xs[i]'(by omega), .of hH, List.getElem?_eq_getElem (by omega)⟩, fun hi => ⟨xs, .of hH, by omega⟩, fun x H' y d hd => ?_⟩
  obtain ⟨rfl, hx⟩ := y
  obtain ⟨v, h1, h2⟩ := r.get hd
  have := hx xs (.of hH)
  rw [h1] at this
  cases this
  exact ⟨w, m, .refl w, rfl, h2.mono s⟩
theorem it_rng {C : Cc} {G : Hp} {lo : Int} {n : Nat} : ItOk C G (Itr lo n) (rngN lo n) := fun i π e σ w m s => by
  have hl : (rngN lo n).length = n := by unfold rngN; rw [List.length_map, List.length_range]
  rw [hl]
  refine ⟨fun hi => hi, fun hi => hi, fun x H' y d hd => ?_⟩
  obtain ⟨rfl, rfl⟩ := y
  unfold rngN at hd
  rw [List.getElem?_map] at hd
  cases q : (List.range n)[i]? with
  | none => rw [q] at hd; cases hd
  | some k =>
    rw [q] at hd
    obtain ⟨h1, h2⟩ := List.getElem?_eq_some_iff.mp q
    rw [List.getElem_range] at h2
    subst h2
    cases hd
    exact ⟨w, m, .refl w, rfl, .int _⟩
theorem it_str {C : Cc} {G : Hp} {z : Str} : ItOk C G (Its z) (z.cps.toList.map fun c => .str ⟨#[c]⟩) := fun i π e σ w m s => by
  have hl : (z.cps.toList.map fun c => PyData.str ⟨#[c]⟩).length = z.cps.size := by rw [List.length_map]; simp
  rw [hl]
  refine ⟨fun hi => hi, fun hi => hi, fun x H' y d hd => ?_⟩
  obtain ⟨rfl, c, hc, rfl⟩ := y
  rw [List.getElem?_map] at hd
  have hc' : z.cps.toList[i]? = some c := by rw [Array.getElem?_toList]; exact hc
  rw [hc'] at hd
  cases hd
  exact ⟨w, m, .refl w, rfl, .str _⟩
theorem vi_seq {tg : Expr} (ha : VE X ρ W a fa) : VI X ρ W tg a (iSeq fa) := by
  obtain ⟨t, p, s⟩ := ha
  refine ⟨_, pi_list p, fun π e σ w R m h => ?_⟩
  refine s π e σ w _ m (h.bnd fun o1 e1 v1 w1 m1 f1 k1 h1 => ?_)
  cases q : fz e1 o1 with
  | none => rw [q] at h1; exact h1.elim
  | some pr =>
    rw [q] at h1
    simp only [Option.bind_some] at h1
    obtain ⟨w2, m2, f2, eH, r2⟩ := fz_sound (e' := pr.2) m1 f1 k1 q
    obtain ⟨d, e2⟩ := pr
    cases d with
    | list ds =>
      cases r2 with
      | lst g1 g2 =>
        rw [← eH]
        exact ⟨_, rfl, ⟨_, .of (m2.sub _ _ g1)⟩, h1 _ w2 m2 f2 (it_list g1 g2)⟩
    | none => exact h1.elim
    | bool i => exact h1.elim
    | int i => exact h1.elim
    | str i => exact h1.elim
    | tuple i => exact h1.elim
    | dict i => exact h1.elim
theorem vi_text {tg : Expr} (ha : VE X ρ W a fa) : VI X ρ W tg a (iText fa) := by
  obtain ⟨t, p, s⟩ := ha
  refine ⟨_, pi_str p, fun π e σ w R m h => ?_⟩
  refine s π e σ w _ m (h.bnd fun o1 e1 v1 w1 m1 f1 k1 h1 => ?_)
  cases q : fz e1 o1 with
  | none => rw [q] at h1; exact h1.elim
  | some pr =>
    rw [q] at h1
    simp only [Option.bind_some] at h1
    obtain ⟨w2, m2, f2, eH, r2⟩ := fz_sound (e' := pr.2) m1 f1 k1 q
    obtain ⟨d, e2⟩ := pr
    cases d with
    | str z =>
      cases r2
      rw [← eH]
      exact ⟨_, rfl, h1 _ w2 m2 f2 it_str⟩
    | none => exact h1.elim
    | bool i => exact h1.elim
    | int i => exact h1.elim
    | tuple i => exact h1.elim
    | list i => exact h1.elim
    | dict i => exact h1.elim
theorem lim_ok {i : Int} (h : lim i = true) : -(2 ^ 62) ≤ i ∧ i < 2 ^ 62 := by
  unfold lim at h
  rw [decide_eq_true_eq] at h
  omega
theorem vi_range1 {tg : Expr} (hm : X.mg "range" = none) (ha : VE X ρ W a fa) (hg : Gl X "range" := by rfl) (hs : starEach [a] X.env = (false, eval a X.env) :: starEach [] X.env := by rfl) :
    VI X ρ W tg (.Call (.Name "range" p) [a] [] pos) (iRange1 fa) := by
  obtain ⟨t, p, s⟩ := ha
  refine ⟨_, pi_range1 hg hm (pa_cons p pa_nil hs) hs, fun π e σ w R m h => ?_⟩
  refine s π e σ w _ m (h.bnd fun o1 e1 v1 w1 m1 f1 k1 h1 => ?_)
  cases q1 : res e1 o1 with
  | none => rw [q1] at h1; exact h1.elim
  | some d1 =>
    rw [q1] at h1
    have r := res_sound m1 k1 q1
    split at h1
    · rename_i j z
      cases z; cases r
      split at h1
      · rename_i hl
        have hl' := lim_ok hl
        exact ⟨j, rfl, hl'.1, hl'.2, h1 _ w1 m1 f1 it_rng⟩
      · exact h1.elim
    · exact h1.elim
end
end VL
set_option maxRecDepth 100000
namespace VL
open PySem L2
section
variable {X : Cx} {ρ : Nat → Res} {W : WX} {pn : List Nat} {st : Stmt} {rest : List Stmt} {a b c tg iter : Expr} {es : List Expr} {pos p : Pos} {fa fb fc : FE} {ta tb tc : FT} {f g : FS} {fi : FI} {ft : FG}
def SG (C : Cc) (pn : List Nat) (t : TG) (f : FG) : Prop := ∀ π e σ w d x e' (Q : St → Hp → Prop), (∀ p ∈ π, p.1 ∈ pn) → Mt C π e σ w → Rp C.K w.G x d → f d e = some e' → (∀ σ' w', Mt C π e' σ' w' → Frm w w' → w'.H = w.H → Q σ' w'.H) → t x σ w.H Q
/-- also what becomes of the slots: those of vs alone change -/
def VG (X : Cx) (ρ : Nat → Res) (pn : List Nat) (tg : Expr) (f : FG) : Prop := ∃ t, PG X tg t ∧ SG (cc X ρ) pn t f
theorem bind_fr {C : Cc} {π : List (Nat × V)} {e : Env} {σ : St} {w : WS} {i : Nat} {d : PyData} {x : V} (m : Mt C π e σ w) (hp : ∀ p ∈ π, p.1 ≠ i) (r : Rp C.K w.G x d) :
    ∃ w', Mt C π (e.set i (some (.fr d))) (σ.set i (some x)) w' ∧ Frm w w' ∧ w'.H = w.H ∧ w'.G = w.G := m.bind (.refl w) hp (fp := fun _ => False) ⟨r, fun _ z => z⟩ fun _ z => z.elim
theorem sg_name {C : Cc} {i : Nat} (hi : i ∉ pn) : SG C pn (gName i) (gN i) := fun π e σ w d x e' Q hp m r hf h => by
  cases hf
  obtain ⟨w', m', f', eH, _⟩ := bind_fr m (fun p hq (z : p.1 = i) => hi (z ▸ hp p hq)) r
  rw [← eH]
  exact h _ w' m' f' eH
theorem vg_name (V0 : X.N.Nodup) (i : Nat) {x : Str} (hi : X.N[i]? = some x := by rfl) (hx : Loc X.env.scope x := by first | exact Or.inl rfl | exact Or.inr rfl) (hp : i ∉ pn := by decide)
    (hf : X.fn x = true ∨ X.env.scope.names.lookup x = some .local := by first | exact .inl rfl | exact .inr rfl) : VG X ρ pn (.Name x pos) (gN i) := ⟨_, pg_name V0 hi hx hf, sg_name hp⟩
theorem forget_post {C : Cc} {π : List (Nat × V)} {e : Env} {σ : St} {w w0 : WS} {vs : List Nat} {D : St → Hp → Prop} (m : Mt C π e σ w) (f : Frm w0 w) (h : ∀ σ' w', Mt C π (forget vs e) σ' w' → Frm w0 w' → D σ' w'.H) : D σ w.H := by
  obtain ⟨w', m', f', eH, _⟩ := m.forget (vs := vs)
  rw [← eH]
  exact h σ w' m' (f.trans f')
theorem ss_for {C : Cc} {wi : TI} {t : TG} {tb : TS} (dead : List Nat) (si : SI C W wi fi) (sg : SG C pn t ft) (sb : SS C W pn tb f) : SS C W pn (tFor wi t tb) (sFor fi ft f dead) := fun π e σ w D hp m h => by
  refine si π e σ w _ m (h.bnd fun ds e1 J w1 m1 f1 k1 h1 => ?_)
  have h2 := h1.from f1
  refine ⟨fun i n σ' H' => n = ds.length - i ∧ i ≤ ds.length ∧ ∃ e' w', w'.H = H' ∧ Mt C π e' σ' w' ∧ Same w1.G w'.G ∧ PostS C W π w' (sForL ft f dead (ds.drop i) e') D, ⟨ds.length, by simp, Nat.zero_le _, e1, w1, rfl, m1, Same.refl _, by rw [List.drop_zero]; exact h2⟩, ?_⟩
  rintro i n σ' H' ⟨rfl, hi, e', w', rfl, m', sG, h3⟩
  obtain ⟨go, stop, yld⟩ := k1 i π e' σ' w' m' sG
  by_cases hlt : i < ds.length
  · refine .inr ⟨go hlt, fun σ2 H2 => i + 1 ≤ ds.length ∧ ∃ e2 w2, w2.H = H2 ∧ Mt C π e2 σ2 w2 ∧ Same w1.G w2.G ∧ PostS C W π w2 (sForL ft f dead (ds.drop (i + 1)) e2) D, fun σ2 H2 q => ⟨ds.length - (i + 1), by omega, rfl, q⟩, fun x H2 y => ?_⟩
    obtain ⟨w2, m2, f2, eH2, r2⟩ := yld x H2 y ds[i] (List.getElem?_eq_getElem hlt)
    subst eH2
    rw [List.drop_eq_getElem_cons hlt] at h3
    have h4 := h3.from f2
    unfold sForL at h4
    cases q : ft ds[i] e' with
    | none => rw [q] at h4; exact h4.elim
    | some e3 =>
      rw [q] at h4
      simp only at h4
      refine sg π e' σ' w2 ds[i] x e3 _ hp m2 r2 q fun σ3 w3 m3 f3 _ => ?_
      have h5 := h4.from f3
      refine sb π e3 σ3 w3 _ hp m3 ?_
      have sG3 : Same w1.G w3.G := (sG.trans f2.g).trans f3.g
      have again : ∀ {σ4 w4 e4}, Mt C π e4 σ4 w4 → Frm w3 w4 → PostS C W π w3 (sForL ft f dead (ds.drop (i + 1)) (forget dead e4)) D →
          i + 1 ≤ ds.length ∧ ∃ e2 w2, w2.H = w4.H ∧ Mt C π e2 σ4 w2 ∧ Same w1.G w2.G ∧ PostS C W π w2 (sForL ft f dead (ds.drop (i + 1)) e2) D := fun {σ4 w4 e4} m4 f4 h6 => by
        obtain ⟨w5, m5, f5, eH5, eG5, _⟩ := m4.forget (vs := dead)
        exact ⟨hlt, _, w5, eH5, m5, (sG3.trans f4.g).trans f5.g, h6.from (f4.trans f5)⟩
      cases q2 : f e3 with
      | none => rw [q2] at h5; exact h5.elim
      | some x =>
        rw [q2] at h5
        cases x with
        | nx e4 => exact fun σ4 w4 m4 f4 => again m4 f4 h5
        | ct e4 => exact fun σ4 w4 m4 f4 => again m4 f4 h5
        | bk e4 => exact fun σ4 w4 m4 f4 => forget_post m4 f4 h5
        | rt b e4 => exact h5
        | ex c e4 => exact h5
  · have e2 : i = ds.length := by omega
    subst e2
    rw [List.drop_length] at h3
    exact .inl ⟨stop (Nat.le_refl _), forget_post m' (.refl _) h3⟩
theorem vs_for (V0 : Vx X W) (dead : List Nat) {body : List Stmt} (hi : VI X ρ W tg iter fi) (hg : VG X ρ pn tg ft) (hb : VSs X ρ W pn body f) (hs : ∀ x, foldedSetIterable iter X.env x = pure x := by intro _; rfl) : VS X ρ W pn (.For tg iter body [] pos) (sFor fi ft f dead) := by
  obtain ⟨wi, pi, si⟩ := hi
  obtain ⟨t, pg, sg⟩ := hg
  obtain ⟨tb, pb, sb⟩ := hb
  exact ⟨_, ps_for V0.po V0.calm pi pg pb hs, ss_for dead si sg sb⟩
abbrev W0 : WX := fun _ _ _ _ => False
/-- the tests of a comprehension -/
def VC (X : Cx) (ρ : Nat → Res) (ifs : List Expr) (f : FT) : Prop := ∃ t, PTs X ifs t ∧ ST (cc X ρ) W0 t f
theorem vc_no : VC X ρ [] tTrue := ⟨_, pts_nil, fun π e σ w Q m h => h true w m (.refl w) rfl⟩
theorem vc_if (h : VT X ρ W0 a ta) : VC X ρ [a] ta := by
  obtain ⟨t, p, s⟩ := h
  exact ⟨_, pts_one p, s⟩
theorem wipe_get {σ : St} {i : Nat} : ∀ {vs : List Nat}, i ∉ vs → (wipe σ vs)[i]? = σ[i]?
  | [], _ => rfl
  | v :: vs, h => by
    simp only [List.mem_cons, not_or] at h
    show ((wipe σ vs).set v none)[i]? = σ[i]?
    rw [List.getElem?_set_ne (Ne.symm h.1)]
    exact wipe_get h.2
/-- into the comprehension's own frame, and out of it -/
theorem Mt.wipe {C : Cc} {π : List (Nat × V)} {e : Env} {σ : St} {w : WS} {vs : List Nat} (m : Mt C π e σ w) (hv : ∀ i b, at? e i = some b → i ∉ vs) : Mt C [] e (L2.wipe σ vs) w :=
  ⟨by rw [wipe_length]; exact m.len, m.sub, fun i b q => by
    obtain ⟨v, h1, h2⟩ := m.bok i b q
    exact ⟨v, by rw [wipe_get (hv i b q)]; exact h1, h2⟩, m.non, m.dis, fun p h => by cases h⟩
theorem Mt.unwipe {C : Cc} {π : List (Nat × V)} {e : Env} {σ σ' : St} {w : WS} {vs : List Nat} (m : Mt C [] e σ' w) (hw : L2.wipe σ' vs = L2.wipe σ vs) (hl : σ'.length = σ.length) (hv : ∀ i b, at? e i = some b → i ∉ vs) (hp : ∀ p ∈ π, σ[p.1]? = some (some p.2)) : Mt C π e σ w :=
  ⟨m.len.trans hl, m.sub, fun i b q => by
    obtain ⟨v, h1, h2⟩ := m.bok i b q
    refine ⟨v, ?_, h2⟩
    have hi := hv i b q
    have e1 : (L2.wipe σ' vs)[i]? = (L2.wipe σ vs)[i]? := by rw [hw]
    rw [wipe_get hi, wipe_get hi] at e1
    rw [← e1]
    exact h1, m.non, m.dis, hp⟩
/-- the wiped slots may change alone -/
def WipeG (t : TG) (vs : List Nat) : Prop := ∀ x σ τ H (Q : St → Hp → Prop), L2.wipe σ vs = τ → t x σ H (fun σ' H' => L2.wipe σ' vs = τ → σ'.length = σ.length → Q σ' H') → t x σ H fun σ' H' => L2.wipe σ' vs = τ ∧ Q σ' H'
theorem wipe_set {σ : St} {i : Nat} {x : Option V} : ∀ {vs : List Nat}, i ∈ vs → L2.wipe (σ.set i x) vs = L2.wipe σ vs
  | v :: vs, h => by
    show (L2.wipe (σ.set i x) vs).set v none = (L2.wipe σ vs).set v none
    by_cases hi : i ∈ vs
    · rw [wipe_set hi]
    · have hv : i = v := by
        rcases List.mem_cons.mp h with e | e
        · exact e
        · exact absurd e hi
      subst hv
      apply List.ext_getElem?
      intro k
      by_cases hk : k = i
      · subst hk
        by_cases hl : k < σ.length
        · rw [List.getElem?_set_self (by rw [wipe_length, List.length_set]; exact hl), List.getElem?_set_self (by rw [wipe_length]; exact hl)]
        · rw [List.getElem?_eq_none (by rw [List.length_set, wipe_length, List.length_set]; omega), List.getElem?_eq_none (by rw [List.length_set, wipe_length]; omega)]
      · rw [List.getElem?_set_ne (Ne.symm hk), List.getElem?_set_ne (Ne.symm hk)]
        have go : ∀ us : List Nat, (L2.wipe (σ.set i x) us)[k]? = (L2.wipe σ us)[k]? := by
          intro us
          induction us with
          | nil => exact List.getElem?_set_ne (Ne.symm hk)
          | cons u us ih =>
            show ((L2.wipe (σ.set i x) us).set u none)[k]? = ((L2.wipe σ us).set u none)[k]?
            by_cases hu : u = k
            · subst hu
              by_cases hl : u < σ.length
              · rw [List.getElem?_set_self (by rw [wipe_length, List.length_set]; exact hl), List.getElem?_set_self (by rw [wipe_length]; exact hl)]
              · rw [List.getElem?_eq_none (by rw [List.length_set, wipe_length, List.length_set]; omega), List.getElem?_eq_none (by rw [List.length_set, wipe_length]; omega)]
            · rw [List.getElem?_set_ne hu, List.getElem?_set_ne hu]
              exact ih
        exact go vs
theorem wipe_wipe {σ : St} {vs : List Nat} : L2.wipe (L2.wipe σ vs) vs = L2.wipe σ vs := by
  have go : ∀ us : List Nat, (∀ u ∈ us, u ∈ vs) → L2.wipe (L2.wipe σ vs) us = L2.wipe σ vs := by
    intro us
    induction us with
    | nil => intro _; rfl
    | cons u us ih =>
      intro hu
      show (L2.wipe (L2.wipe σ vs) us).set u none = L2.wipe σ vs
      rw [ih fun v hv => hu v (List.mem_cons_of_mem _ hv)]
      apply List.ext_getElem?
      intro k
      by_cases hk : u = k
      · subst hk
        by_cases hl : u < σ.length
        · rw [List.getElem?_set_self (by rw [wipe_length]; exact hl)]
          cases q : (L2.wipe σ vs)[u]? with
          | none =>
            rw [List.getElem?_eq_none_iff, wipe_length] at q
            omega
          | some z =>
            cases z with
            | none => rfl
            | some z => exact absurd (hu u List.mem_cons_self) (wipe_some q).2
        · rw [List.getElem?_eq_none (by rw [List.length_set, wipe_length]; omega), List.getElem?_eq_none (by rw [wipe_length]; omega)]
      · rw [List.getElem?_set_ne hk]
  exact go vs fun _ h => h
theorem wg_name {i : Nat} {vs : List Nat} (h : i ∈ vs) : WipeG (gName i) vs := fun x σ τ H Q e q => ⟨(wipe_set h).trans e, q ((wipe_set h).trans e) List.length_set⟩
theorem se_lc {C : Cc} {wi : TI} {t : TG} {tt : TT} {te : TE} {vs : List Nat} (si : SI C W wi fi) (sg : SG C [] t ft) (wg : WipeG t vs) (st : ST C W0 tt ta) (sf : SE C W0 te fa) : SE C W (tLc wi t tt te vs) (fLc fi ft ta fa vs) := fun π e σ w Q m h => by
  refine si π e σ w _ m (h.bnd fun ds e1 J w1 m1 f1 k1 h1 => ?_)
  intro D hD
  obtain ⟨wf, mf, ff, eHf, eGf, hlf⟩ := m1.forget (vs := vs)
  have hDf : wf.H D = none := by rw [eHf]; exact hD
  have hDw : w.H D = none := f1.t D hD
  have hG1 : wf.G D = none := mf.sub.free hDf
  have m2 := mf.new (o := .lst []) hDf
  have f2 := Frm.new (o := .lst []) hDf
  have hno : ∀ i, ¬ (wf.new D (.lst [])).fp i D := fun i => mf.notOwned hDf i
  have mw : Mt C [] (forget vs e1) (L2.wipe σ vs) (wf.new D (.lst [])) := m2.wipe fun i b q => (at_forget q).2
  -- the invariant
  refine ⟨fun i n H' => n = ds.length - i ∧ i ≤ ds.length ∧ ∃ e' w' acc xs, w'.H = H' ∧ Mt C [] e' (L2.wipe σ vs) w' ∧ (∀ j b, at? e' j = some b → j ∉ vs) ∧ Frm w1 w' ∧ Same w1.G w'.G ∧ w'.H D = some (.lst xs) ∧ w'.G D = none ∧ (∀ j, ¬ w'.fp j D) ∧ RpAll C.K w'.G xs acc ∧
      Post C W π σ w (fLcL ft ta fa vs (ds.drop i) acc e') (OOk C σ w) Q,
    ⟨ds.length, by simp, Nat.zero_le _, forget vs e1, wf.new D (.lst []), [], [], by rw [show (wf.new D (.lst [])).H = upd wf.H D (.lst []) from rfl, eHf], mw, fun j b q => (at_forget q).2, ff.trans f2, (ff.trans f2).g, upd_same, hG1, hno, .nil, by rw [List.drop_zero]; exact h1⟩, ?_⟩
  rintro i n H' ⟨rfl, hi, e', w', acc, xs, rfl, m', hv', fr', sG, hDx, hGD, hnD, rA, h3⟩
  obtain ⟨go, stop, yld⟩ := k1 i [] e' _ w' m' sG
  have frw : Frm w w' := f1.trans fr'
  by_cases hlt : i < ds.length
  · refine .inr ⟨go hlt, fun H2 => i + 1 ≤ ds.length ∧ ∃ e' w' acc xs, w'.H = H2 ∧ Mt C [] e' (L2.wipe σ vs) w' ∧ (∀ j b, at? e' j = some b → j ∉ vs) ∧ Frm w1 w' ∧ Same w1.G w'.G ∧ w'.H D = some (.lst xs) ∧ w'.G D = none ∧ (∀ j, ¬ w'.fp j D) ∧ RpAll C.K w'.G xs acc ∧
      Post C W π σ w (fLcL ft ta fa vs (ds.drop (i + 1)) acc e') (OOk C σ w) Q, fun H2 q => ⟨ds.length - (i + 1), by omega, rfl, q⟩, fun x H2 y => ?_⟩
    obtain ⟨w2, m2, f2, eH2, r2⟩ := yld x H2 y ds[i] (List.getElem?_eq_getElem hlt)
    subst eH2
    rw [List.drop_eq_getElem_cons hlt] at h3
    unfold fLcL at h3
    cases q : ft ds[i] e' with
    | none => rw [q] at h3; exact h3.elim
    | some e3 =>
      rw [q] at h3
      simp only at h3
      -- the target
      have ww := wipe_wipe (σ := σ) (vs := vs)
      -- the rest of the turn, for whatever slots
      have turn : ∀ σ3 w3, L2.wipe σ3 vs = L2.wipe σ vs → σ3.length = σ.length → Mt C [] e3 σ3 w3 → Frm w2 w3 → tt σ3 w3.H fun b H3 => if b = true then te σ3 H3 fun y H4 => ∃ acc, H4 D = some (.lst acc) ∧ acc.length < sizeLine ∧
          (i + 1 ≤ ds.length ∧ ∃ e' w' acc_1 xs, w'.H = upd H4 D (.lst (acc ++ [y])) ∧ Mt C [] e' (L2.wipe σ vs) w' ∧ (∀ j b, at? e' j = some b → j ∉ vs) ∧ Frm w1 w' ∧ Same w1.G w'.G ∧ w'.H D = some (.lst xs) ∧ w'.G D = none ∧ (∀ j, ¬ w'.fp j D) ∧ RpAll C.K w'.G xs acc_1 ∧ Post C W π σ w (fLcL ft ta fa vs (ds.drop (i + 1)) acc_1 e') (OOk C σ w) Q)
          else (i + 1 ≤ ds.length ∧ ∃ e' w' acc_1 xs, w'.H = H3 ∧ Mt C [] e' (L2.wipe σ vs) w' ∧ (∀ j b, at? e' j = some b → j ∉ vs) ∧ Frm w1 w' ∧ Same w1.G w'.G ∧ w'.H D = some (.lst xs) ∧ w'.G D = none ∧ (∀ j, ¬ w'.fp j D) ∧ RpAll C.K w'.G xs acc_1 ∧ Post C W π σ w (fLcL ft ta fa vs (ds.drop (i + 1)) acc_1 e') (OOk C σ w) Q) := by
        intro σ3 w3 hw3 hl3 m3 f3
        have fD : ∀ {w4}, Frm w' w4 → w4.H D = some (.lst xs) ∧ w4.G D = none ∧ ∀ j, ¬ w4.fp j D := fun {w4} f => by
          obtain ⟨g1, g2, g3⟩ := f.k D _ hDx hnD
          exact ⟨g1, g2.trans hGD, g3⟩
        refine st [] e3 σ3 w3 _ m3 ?_
        cases qt : ta e3 with
        | none => rw [qt] at h3; exact h3.elim
        | some ot =>
          rw [qt] at h3
          cases ot with
          | ex c e => exact h3.elim
          | ok bt e4 =>
            intro b w4 m4 f4 eb
            subst eb
            have f24 : Frm w' w4 := (f2.trans f3).trans f4
            cases bt with
            | false =>
              rw [if_neg Bool.false_ne_true]
              simp only at h3
              obtain ⟨w5, m5, f5, eH5, eG5, _⟩ := m4.forget (vs := vs)
              have f25 := f24.trans f5
              obtain ⟨g1, g2, g3⟩ := fD f25
              refine ⟨hlt, _, w5, acc, xs, eH5, (m5.unwipe (π := []) (vs := vs) (by rw [ww]; exact hw3) (by rw [wipe_length]; exact hl3) (fun j b q => (at_forget q).2) (fun p h => by cases h)), fun j b q => (at_forget q).2, fr'.trans f25, sG.trans f25.g, g1, g2, g3, rA.mono f25.g, h3⟩
            | true =>
              rw [if_pos rfl]
              simp only at h3
              refine sf [] e4 σ3 w4 _ m4 ?_
              cases qf : fa e4 with
              | none => rw [qf] at h3; exact h3.elim
              | some of_ =>
                rw [qf] at h3
                cases of_ with
                | ex c e => exact h3.elim
                | ok o e5 =>
                  intro yv w5 m5 f5 k5
                  simp only at h3
                  cases qz : fz e5 o with
                  | none => rw [qz] at h3; exact h3.elim
                  | some pz =>
                    rw [qz] at h3
                    obtain ⟨dz, ez⟩ := pz
                    simp only at h3
                    obtain ⟨w6, m6, f6, eH6, r6⟩ := fz_sound m5 f5 k5 qz
                    split at h3
                    case isFalse => exact h3.elim
                    case isTrue hbig =>
                      have f26 : Frm w' w6 := f24.trans f6
                      obtain ⟨g1, g2, g3⟩ := fD f26
                      have hlen := rA.length
                      refine ⟨xs, by rw [← eH6]; exact g1, by rw [hlen]; exact Nat.lt_of_lt_of_le hbig big_le, hlt, ?_⟩
                      -- D grows
                      obtain ⟨w7, m7, f7, eH7, eG7, hl7⟩ := m6.forget (vs := vs)
                      have f27 := f26.trans f7
                      obtain ⟨a1, a2, a3⟩ := fD f27
                      have m8 : Mt C [] (forget vs ez) (L2.wipe σ vs) { w7 with H := upd w7.H D (.lst (xs ++ [yv])) } := by
                        have m7' := m7.unwipe (σ := L2.wipe σ vs) (π := []) (vs := vs) (by rw [ww]; exact hw3) (by rw [wipe_length]; exact hl3) (fun j b q => (at_forget q).2) (fun p h => by cases h)
                        refine ⟨m7'.len, fun a u qa => ?_, fun j b qb => ?_, m7'.non, m7'.dis, m7'.pin⟩
                        · show upd w7.H D (.lst (xs ++ [yv])) a = some u
                          rw [upd_ne (ne_of_none qa a2)]
                          exact m7'.sub a u qa
                        · obtain ⟨v, b1, b2⟩ := m7'.bok j b qb
                          refine ⟨v, b1, b2.mono (Same.refl _) fun a ha => ⟨upd_ne fun z => a3 j (by rw [← z]; exact ha), rfl⟩⟩
                      refine ⟨_, _, acc ++ [dz], xs ++ [yv], by show upd w7.H D _ = _; rw [eH7, eH6], m8, fun j b q => (at_forget q).2, ⟨(fr'.trans f27).g, fun a o ha hna => ?_, fun a ha => ?_⟩, sG.trans f27.g, upd_same, a2, a3, (rA.mono f27.g).append (.cons (r6.mono f7.g) .nil), h3⟩
                      · obtain ⟨b1, b2, b3⟩ := (fr'.trans f27).k a o ha hna
                        refine ⟨?_, b2, b3⟩
                        show upd w7.H D _ a = some o
                        rw [upd_ne (ne_of_none ha hD)]
                        exact b1
                      · by_cases z : a = D
                        · rw [z]; exact hD
                        · have ha' : upd w7.H D (.lst (xs ++ [yv])) a = none := ha
                          rw [upd_ne z] at ha'
                          exact (fr'.trans f27).t a ha'
      exact wg x _ _ _ _ ww (sg [] e' _ w2 ds[i] x e3 _ (fun p h => by cases h) m2 r2 q fun σ3 w3 m3 f3 _ hw hl => turn σ3 w3 hw (hl.trans (wipe_length σ vs)) m3 f3)
  · have e2 : i = ds.length := by omega
    subst e2
    rw [List.drop_length] at h3
    refine .inl ⟨stop (Nat.le_refl _), ?_⟩
    have mu : Mt C π e' σ w' := m'.unwipe (σ := σ) (vs := vs) wipe_wipe (wipe_length σ vs) hv' m.pin
    exact h3 (.ref D) w' mu frw ⟨fun a => a = D, ⟨D, xs, rfl, hGD, hDx, rA, fun _ => Iff.rfl⟩, fun a ha => by subst ha; exact ⟨.inl hDw, hnD⟩⟩
end
end VL
set_option maxRecDepth 100000
namespace VL
open PySem L2
section
variable {X : Cx} {ρ : Nat → Res} {W : WX} {pn : List Nat} {st : Stmt} {rest : List Stmt} {a b c tg iter elt : Expr} {es ifs : List Expr} {pos p : Pos} {fa fb fc : FE} {ta tb tc : FT} {f g : FS} {fi : FI} {ft : FG} {as_ : FA}
theorem Vx.blk (V0 : Vx X W) (s : Shared) (H : Hp) (scope : Scope) (cenv : PySem.Env) (fp : List Addr) : Vx (X.blk s H scope cenv fp) W0 := ⟨V0.calm, V0.room, V0.gd, V0.sm, V0.nd, takes0, PassesOwn.never⟩
theorem pe_less {t t' : TE} (h : PE X a t) (k : ∀ σ H Q, t' σ H Q → t σ H Q) : PE X a t' := ⟨fun pins s σ H Q I q => h.run pins s σ H Q I (k σ H Q q)⟩
theorem pts_less {t t' : TT} (h : PTs X ifs t) (k : ∀ σ H Q, t' σ H Q → t σ H Q) : PTs X ifs t' := ⟨fun pins s σ H Q I q => h.run pins s σ H Q I (k σ H Q q)⟩
/-- the parts of a comprehension, the same readings whatever frame it gets -/
theorem lc_parts {scope : Scope} (V0 : Vx X W)
    (ht : ∀ (s : Shared) (H : Hp) (C : Addr) (cl : List (Str × Addr)) (fp : List Addr), Vx (X.blk s H scope (compEnvC scope cl C X.env) fp) W0 → VC (X.blk s H scope (compEnvC scope cl C X.env) fp) ρ ifs ta)
    (he : ∀ (s : Shared) (H : Hp) (C : Addr) (cl : List (Str × Addr)) (fp : List Addr), Vx (X.blk s H scope (compEnvC scope cl C X.env) fp) W0 → VE (X.blk s H scope (compEnvC scope cl C X.env) fp) ρ W0 elt fa) :
    ∃ (tt : TT) (te : TE), (∀ (s : Shared) (H : Hp) (C : Addr) (cl : List (Str × Addr)) (fp : List Addr), PTs (X.blk s H scope (compEnvC scope cl C X.env) fp) ifs tt) ∧ (∀ (s : Shared) (H : Hp) (C : Addr) (cl : List (Str × Addr)) (fp : List Addr), PE (X.blk s H scope (compEnvC scope cl C X.env) fp) elt te) ∧
      ST (cc X ρ) W0 tt ta ∧ SE (cc X ρ) W0 te fa := by
  have h1 := fun s H C cl fp => ht s H C cl fp (V0.blk s H scope _ fp)
  have h2 := fun s H C cl fp => he s H C cl fp (V0.blk s H scope _ fp)
  refine ⟨fun σ H' Q => ∀ s H C cl fp, (h1 s H C cl fp).choose σ H' Q, fun σ H' Q => ∀ s H C cl fp, (h2 s H C cl fp).choose σ H' Q, fun s H C cl fp => ?_, fun s H C cl fp => ?_, ?_, ?_⟩
  · exact pts_less (h1 s H C cl fp).choose_spec.1 fun σ H' Q q => q s H C cl fp
  · exact pe_less (h2 s H C cl fp).choose_spec.1 fun σ H' Q q => q s H C cl fp
  · intro π e σ w Q m h s H C cl fp
    exact (h1 s H C cl fp).choose_spec.2 π e σ w Q m h
  · intro π e σ w Q m h s H C cl fp
    exact (h2 s H C cl fp).choose_spec.2 π e σ w Q m h
theorem ve_lc {scope : Scope} (V0 : Vx X W) (own : List (Str × Nat)) {t : TG} (hi : VI X ρ W tg iter fi) (ok : blkC X.N X.env.scope scope own = true)
    (hg : ∀ (s : Shared) (H : Hp) (C : Addr) (cl : List (Str × Addr)) (fp : List Addr), PG (X.blk s H scope (compEnvC scope cl C X.env) fp) tg t) (sg : SG (cc X ρ) [] t ft) (wg : WipeG t (own.map (·.2)))
    (ht : ∀ (s : Shared) (H : Hp) (C : Addr) (cl : List (Str × Addr)) (fp : List Addr), Vx (X.blk s H scope (compEnvC scope cl C X.env) fp) W0 → VC (X.blk s H scope (compEnvC scope cl C X.env) fp) ρ ifs ta)
    (he : ∀ (s : Shared) (H : Hp) (C : Addr) (cl : List (Str × Addr)) (fp : List Addr), Vx (X.blk s H scope (compEnvC scope cl C X.env) fp) W0 → VE (X.blk s H scope (compEnvC scope cl C X.env) fp) ρ W0 elt fa) (hs : ∀ x, foldedSetIterable iter X.env x = pure x := by intro _; rfl) :
    VE X ρ W (.ListComp elt [⟨tg, iter, ifs, 0⟩] scope pos) (fLc fi ft ta fa (own.map (·.2))) := by
  obtain ⟨wi, pi, si⟩ := hi
  obtain ⟨tt, te, p1, p2, s1, s2⟩ := lc_parts V0 ht he
  exact ⟨_, pe_lc V0.calm V0.nd pi (blkOk_by ok) hg p1 p2 hs, se_lc si sg wg s1 s2⟩
/-- name = [..], the name a local -/
theorem vs_asgLc {scope : Scope} {y : Str} {py spos : Pos} {t : TG} (V0 : Vx X W) (i : Nat) (own : List (Str × Nat)) (hi : VI X ρ W tg iter fi) (ok : blkC X.N X.env.scope scope own = true)
    (hg : ∀ (s : Shared) (H : Hp) (C : Addr) (cl : List (Str × Addr)) (fp : List Addr), PG (X.blk s H scope (compEnvC scope cl C X.env) fp) tg t) (sg : SG (cc X ρ) [] t ft) (wg : WipeG t (own.map (·.2)))
    (ht : ∀ (s : Shared) (H : Hp) (C : Addr) (cl : List (Str × Addr)) (fp : List Addr), Vx (X.blk s H scope (compEnvC scope cl C X.env) fp) W0 → VC (X.blk s H scope (compEnvC scope cl C X.env) fp) ρ ifs ta)
    (he : ∀ (s : Shared) (H : Hp) (C : Addr) (cl : List (Str × Addr)) (fp : List Addr), Vx (X.blk s H scope (compEnvC scope cl C X.env) fp) W0 → VE (X.blk s H scope (compEnvC scope cl C X.env) fp) ρ W0 elt fa)
    (hsw : swapsWith (.ListComp elt [⟨tg, iter, ifs, 0⟩] scope pos) (some (.Name y py)) spos.line X.env = pure true) (hy : X.N[i]? = some y := by rfl) (hyl : X.env.scope.names.lookup y = some .local := by rfl) (hp : i ∉ pn := by decide)
    (hs : ∀ x, foldedSetIterable iter X.env x = pure x := by intro _; rfl) :
    VS X ρ W pn (.Assign [.Name y py] (.ListComp elt [⟨tg, iter, ifs, 0⟩] scope pos) spos) (sAsg i (fLc fi ft ta fa (own.map (·.2)))) ∧
    VS X ρ W pn (.Assign [.Name y py] (.ListComp elt [⟨tg, iter, ifs, 0⟩] scope pos) spos) (sOwn i (fLc fi ft ta fa (own.map (·.2)))) := by
  obtain ⟨wi, pi, si⟩ := hi
  obtain ⟨tt, te, p1, p2, s1, s2⟩ := lc_parts V0 ht he
  have q := ps_setLc V0.calm V0.nd hy hyl hsw pi (blkOk_by ok) hg p1 p2 hs
  exact ⟨⟨_, q, ss_asg hp (se_lc si sg wg s1 s2)⟩, ⟨_, q, ss_own hp (se_lc si sg wg s1 s2)⟩⟩
/-- an own class of error, without methods, over ValueError -/
structure XC (K : PySem.W.Frag) (mg : Str → Option Value) (c : Str) : Prop where
  ex : ∃ A, mg c = some (.ref A) ∧ PySem.W.excIn K A [.type "ValueError", .type "Exception", .type "BaseException", .type "object"] "ValueError.__new__" = true ∧ PySem.W.keepIn K (.ref A) = true ∧
    PySem.W.subIn K (.ref A) (.type "BaseException") = some true ∧ PySem.W.typeIn K (.ref A) = some (.type "type")
theorem vs_raise {x m : Str} {j : Nat} {p1 p2 p3 : Pos} (V0 : Vx X W) (hx : XC X.K X.mg x) (hg : Gl X x := by rfl) (hdb : (x == ("__debug__" : Str)) = false := by decide) : VS X ρ W pn (.Raise (some (.Call (.Name x p1) [.Constant (.str m) j p2] [] p3)) none pos) (sRaise x) := by
  obtain ⟨A, h1, h2, h3, h4, h5⟩ := hx.ex
  refine ⟨_, ps_raise V0.calm V0.tk (pmk_own PySem.F.excBase_ValueError h2 h1 h3 (raises_own h4 h5) hg hdb), fun π e σ w D hp m h => ?_⟩
  exact h σ w A h1 m (.refl w)
def mask (ms : List Nat) (e : Env) (k : Nat) : Env := (List.range k).map fun j => if j ∈ ms then at? e j else none
def PostF (C : Cc) (ms : List Nat) (vs : List V) (w : WS) (r : Option FR) (Q : VK) (E : XK) : Prop := match r with
  | none => False
  | some (.ret b e) => ∀ v w', Mt C [] (mask ms e vs.length) (vs.map some) w' → Frm w w' → OOk C (vs.map some) w w' (.b b) v → Q v w'.H
  | some (.ex c e) => ∀ w' A, C.mg c = some (.ref A) → Mt C [] (mask ms e vs.length) (vs.map some) w' → Frm w w' → E (.ref A) none w'.H
/-- a def's promise: it computes F; the parameters at ms are changed -/
def spV (C : Cc) (n : Nat) (ms : List Nat) (F : Fn) : Sp := fun vs H Q E => vs.length = n ∧ ∃ (bs : List B) (w : WS), w.H = H ∧ Mt C [] (bs.map some) (vs.map some) w ∧ PostF C ms vs w (F bs) Q E
theorem at_map {bs : List B} {i : Nat} : at? (bs.map some) i = bs[i]? := by
  unfold at?
  rw [List.getElem?_map]
  cases bs[i]? <;> rfl
theorem at_app {bs : List B} {k i : Nat} {b : B} (h : at? (bs.map some ++ List.replicate k none) i = some b) : bs[i]? = some b := by
  unfold at? at h
  by_cases hi : i < bs.length
  · rw [List.getElem?_append_left (by simpa using hi), List.getElem?_map] at h
    cases q : bs[i]? with
    | none => rw [q] at h; cases h
    | some z => rw [q] at h; exact h
  · rw [List.getElem?_append_right (by simpa using hi), List.getElem?_replicate] at h
    split at h <;> (rename_i z; split at z <;> cases z) <;> cases h
theorem at_mask {ms : List Nat} {e : Env} {k i : Nat} {b : B} (h : at? (mask ms e k) i = some b) : i ∈ ms ∧ i < k ∧ at? e i = some b := by
  unfold at? mask at h
  rw [List.getElem?_map] at h
  by_cases hi : i < k
  · rw [List.getElem?_range hi] at h
    simp only [Option.map_some] at h
    by_cases hm : i ∈ ms
    · rw [if_pos hm] at h
      exact ⟨hm, hi, h⟩
    · rw [if_neg hm] at h
      cases h
  · rw [List.getElem?_eq_none (by simpa using hi)] at h
    cases h
theorem body_post {C : Cc} {π : List (Nat × V)} {ms : List Nat} {vs : List V} {w w' : WS} {e : Env} {σ' : St} (hms : ∀ j ∈ ms, ∀ v, vs[j]? = some v → (j, v) ∈ π) (m : Mt C π e σ' w') (f : Frm w w') :
    ∃ w2, Mt C [] (mask ms e vs.length) (vs.map some) w2 ∧ Frm w w2 ∧ w2.H = w'.H ∧ w2.G = w'.G ∧ ∀ i a, w2.fp i a → w'.fp i a := by
  refine ⟨{ w' with fp := fun i a => (at? (mask ms e vs.length) i).isSome = true ∧ w'.fp i a }, ⟨by unfold mask; simp, m.sub, fun i b q => ?_, fun i q a z => ?_, fun i j a x y => m.dis i j a x.2 y.2, fun p h => by cases h⟩, ⟨f.g, fun a o h n => ?_, f.t⟩, rfl, rfl, fun i a z => z.2⟩
  · obtain ⟨h1, h2, h3⟩ := at_mask q
    obtain ⟨v, g1, g2⟩ := m.bok i b h3
    have hv : vs[i]? = some vs[i] := List.getElem?_eq_getElem h2
    have hp := m.pin _ (hms i h1 _ hv)
    simp only at hp
    rw [g1] at hp
    have ev : v = vs[i] := Option.some.inj (Option.some.inj hp)
    refine ⟨v, by rw [List.getElem?_map, hv, ev]; rfl, ?_⟩
    have e1 : (fun a => (at? (mask ms e vs.length) i).isSome = true ∧ w'.fp i a) = w'.fp i := by
      funext a
      exact propext ⟨fun z => z.2, fun z => ⟨by rw [q]; rfl, z⟩⟩
    show BOk C w'.G w'.H b v (fun a => (at? (mask ms e vs.length) i).isSome = true ∧ w'.fp i a)
    rw [e1]
    exact g2
  · have z1 : (at? (mask ms e vs.length) i).isSome = true := z.1
    rw [q] at z1
    cases z1
  · obtain ⟨h1, h2, h3⟩ := f.k a o h n
    exact ⟨h1, h2, fun i z => h3 i z.2⟩
section
variable {P : Program} {w : World} {K : PySem.W.Frag} {mg : Str → Option Value} {base : Heap}
theorem fn_okV {x qual : Str} {params : Arguments} {body : List Stmt} {scope : Scope} {dvs : List V} {kws : List (Str × V)} {f : Addr} {fd : FuncData} {N ps : List Str} {k : Nat} {ρ : Nat → Res} {g : FS} (ms : List Nat) (F : FunD K x qual params body scope dvs kws f fd) (S : FnScope N ps scope) (hpn : ps.length ≤ N.length)
    (hbody : ∀ (cdv : Value) (A : Around) (outer : List PySem.Env) (s : Shared) (H : Hp) (E : XK), Room k (A.deeper (PyProof.Rows.envOfC qual scope s.heap.objs.size f cdv)) →
      Vx (cxOf (L2.CX P w) P w K mg base N qual scope f cdv A outer s H E) (fun cls d _ H => E cls d H) → VSs (cxOf (L2.CX P w) P w K mg base N qual scope f cdv A outer s H E) ρ (fun cls d _ H => E cls d H) ms body g) (hk : 1 ≤ k) :
    FnG P w K mg base (k + 1) f fd ps (spV ⟨K, mg, ρ⟩ ps.length ms (runF g N.length)) := by
  refine fnG_of F S (fun vs H Q E h => h.1) (fun cdv A outer s H vs Q E hr hgd hsm h => ?_)
  obtain ⟨hl, bs, w0, rfl, m, h⟩ := h
  have V0 : Vx (cxOf (L2.CX P w) P w K mg base N qual scope f cdv A outer s w0.H E) (fun cls d _ H => E cls d H) := ⟨rfl, hr.mono hk, hgd, hsm, S.nd, takes_of rfl rfl rfl rfl, passes_of rfl⟩
  obtain ⟨t, pt, ss⟩ := hbody cdv A outer s w0.H E hr V0
  refine ⟨t, pt, ?_⟩
  have hbl : bs.length = vs.length := by have := m.len; rwa [List.length_map, List.length_map] at this
  -- the start
  let π : List (Nat × V) := (List.range vs.length).filterMap fun j => if j ∈ ms then vs[j]?.map fun v => (j, v) else none
  have hπ : ∀ p ∈ π, p.1 ∈ ms ∧ vs[p.1]? = some p.2 := fun p hp => by
    obtain ⟨j, hj, e⟩ := List.mem_filterMap.mp hp
    split at e
    · rename_i hm
      cases q : vs[j]? with
      | none => rw [q] at e; cases e
      | some v => rw [q] at e; cases e; exact ⟨hm, q⟩
    · cases e
  have hπ2 : ∀ j ∈ ms, ∀ v, vs[j]? = some v → (j, v) ∈ π := fun j hj v hv => by
    refine List.mem_filterMap.mpr ⟨j, List.mem_range.mpr (List.getElem?_eq_some_iff.mp hv).1, ?_⟩
    rw [if_pos hj, hv]
    rfl
  have m0 : Mt ⟨K, mg, ρ⟩ π (bs.map some ++ List.replicate (N.length - bs.length) none) (L2.start N vs) w0 := by
    unfold L2.start
    refine ⟨by simp [hbl], m.sub, fun i b q => ?_, fun i q a z => ?_, m.dis, fun p hp => ?_⟩
    · have hb := at_app q
      obtain ⟨v, g1, g2⟩ := m.bok i b (by rw [at_map]; exact hb)
      refine ⟨v, ?_, g2⟩
      have hi : i < vs.length := by rw [← hbl]; exact (List.getElem?_eq_some_iff.mp hb).1
      rw [List.getElem?_append_left (by simpa using hi)]
      exact g1
    · refine m.non i ?_ a z
      rw [at_map]
      cases qb : bs[i]? with
      | none => rfl
      | some b =>
        unfold at? at q
        have hi := (List.getElem?_eq_some_iff.mp qb).1
        rw [List.getElem?_append_left (by simpa using hi), List.getElem?_map, qb] at q
        cases q
    · obtain ⟨h1, h2⟩ := hπ p hp
      have hi := (List.getElem?_eq_some_iff.mp h2).1
      rw [List.getElem?_append_left (by simpa using hi), List.getElem?_map, h2]
      rfl
  refine ss π _ _ w0 _ (fun p hp => (hπ p hp).1) m0 ?_
  unfold runF at h
  cases q : g (bs.map some ++ List.replicate (N.length - bs.length) none) with
  | none => rw [q] at h; exact h.elim
  | some x =>
    rw [q] at h
    cases x with
    | nx e =>
      intro σ' w' m' f'
      obtain ⟨w2, m2, f2, eH, eG, hl2⟩ := body_post hπ2 m' f'
      rw [← eH]
      exact h .non w2 m2 f2 (.fr .non)
    | rt b e =>
      intro v σ' w' m' f' k'
      obtain ⟨w2, m2, f2, eH, eG, hl2⟩ := body_post hπ2 m' f'
      rw [← eH]
      refine h v w2 m2 f2 ?_
      obtain ⟨fp, k1, k2⟩ := k'
      exact ⟨fp, by rw [eG, eH]; exact k1, fun a ha => ⟨(k2 a ha).1, fun i z => (k2 a ha).2 i (hl2 i a z)⟩⟩
    | bk e => exact h.elim
    | ct e => exact h.elim
    | ex c e =>
      intro σ' w' A hA m' f'
      obtain ⟨w2, m2, f2, eH, eG, hl2⟩ := body_post hπ2 m' f'
      rw [← eH]
      exact h w2 A hA m2 f2
end
end
end VL
set_option maxRecDepth 100000
namespace VL
open PySem L2
section
variable {X : Cx} {ρ : Nat → Res} {W : WX} {a b c : Expr} {es : List Expr} {pos p : Pos} {fa fb fc : FE} {as_ : FA} {C : Cc} {π : List (Nat × V)} {e e1 e2 : Env} {σ : St} {w w0 w1 w2 : WS}
theorem va_F (ha : VE X ρ W a fa) (hr : VA X ρ W es as_) (hs : starEach (a :: es) X.env = (false, eval a X.env) :: starEach es X.env := by rfl) : VA X ρ W (a :: es) (aF fa as_) := by
  obtain ⟨t, p, s⟩ := ha
  obtain ⟨t2, p2, s2⟩ := hr
  refine ⟨_, pa_cons p p2 hs, fun π e σ w Q m h => ?_⟩
  refine s π e σ w _ m (h.bnd fun o1 e1 v1 w1 m1 f1 k1 h1 => ?_)
  cases q : fzB e1 o1 with
  | none => rw [q] at h1; exact h1.elim
  | some pr =>
    rw [q] at h1
    simp only [Option.bind_some] at h1
    obtain ⟨wf, mf, ff, eH, hb⟩ := fzB_sound (e' := pr.2) m1 f1 k1 q
    rw [← eH]
    refine s2 π pr.2 σ wf _ mf ((h1.from ff).bnd fun os e3 vs w3 m3 f3 k3 h3 => ?_)
    refine h3.from f3 (v1 :: vs) w3 m3 (.refl _) (.cons ?_ (paired_base ff k3))
    exact ⟨fun _ => False, hb.mono f3.g (fun _ z => z.elim), fun _ z => z.elim⟩
theorem va_M (i : Nat) {x : Str} {px : Pos} (hr : VA X ρ W es as_) (hN : X.N[i]? = some x := by rfl) (hv : Vis X.env.scope x := by first | exact Or.inl rfl | exact Or.inr (Or.inl rfl) | exact Or.inr (Or.inr rfl)) (hd : (x == ("__debug__" : Str)) = false := by decide)
    (hcd : (x == ("__classdict__" : Str)) = false := by decide) (hs : starEach (.Name x px :: es) X.env = (false, eval (.Name x px) X.env) :: starEach es X.env := by rfl) : VA X ρ W (.Name x px :: es) (aM i as_) := by
  obtain ⟨t2, p2, s2⟩ := hr
  refine ⟨_, pa_cons (pe_var hN hv hd hcd) p2 hs, fun π e σ w Q m h => ?_⟩
  unfold aM at h
  cases q : at? e i with
  | none => rw [q] at h; exact h.elim
  | some bb =>
    rw [q] at h
    obtain ⟨v, h1, h2⟩ := m.bok i bb q
    refine ⟨v, h1, ?_⟩
    refine s2 π e σ w _ m (Post.bnd (rel' := fun w' os vs => Paired (OOk (cc X ρ) σ w w') os vs) h fun os e3 vs w3 m3 f3 k3 h3 => ?_)
    exact h3.from f3 (v :: vs) w3 m3 (.refl _) (.cons h1 k3)
theorem va_P (ha : VE X ρ W a fa) (hr : VA X ρ W es as_) (hs : starEach (a :: es) X.env = (false, eval a X.env) :: starEach es X.env := by rfl) : VA X ρ W (a :: es) (aP fa as_) := by
  obtain ⟨t, p, s⟩ := ha
  obtain ⟨t2, p2, s2⟩ := hr
  refine ⟨_, pa_cons p p2 hs, fun π e σ w Q m h => ?_⟩
  refine s π e σ w _ m (h.bnd fun o1 e1 v1 w1 m1 f1 k1 h1 => ?_)
  cases o1 with
  | s i =>
    refine s2 π e1 σ w1 _ m1 ((h1.from f1).bnd fun os e3 vs w3 m3 f3 k3 h3 => ?_)
    exact h3.from f3 (v1 :: vs) w3 m3 (.refl _) (.cons k1 (paired_base f1 k3))
  | b bb =>
    simp only at h1
    cases q : fzB e1 (.b bb) with
    | none => rw [q] at h1; exact h1.elim
    | some pr =>
      rw [q] at h1
      simp only [Option.bind_some] at h1
      obtain ⟨wf, mf, ff, eH, hb⟩ := fzB_sound (e' := pr.2) m1 f1 k1 q
      rw [← eH]
      refine s2 π pr.2 σ wf _ mf ((h1.from ff).bnd fun os e3 vs w3 m3 f3 k3 h3 => ?_)
      refine h3.from f3 (v1 :: vs) w3 m3 (.refl _) (.cons ?_ (paired_base ff k3))
      exact ⟨fun _ => False, hb.mono f3.g (fun _ z => z.elim), fun _ z => z.elim⟩
/-- a def that may be called -/
structure Cal (X : Cx) (ρ : Nat → Res) (x : Str) (n : Nat) (ms : List Nat) (F : Fn) (k : Nat) : Prop where
  ex : ∃ f fd ps, FnG X.prog X.w X.K X.mg X.base k f fd ps (spV (cc X ρ) n ms F) ∧ X.mg x = some (.ref f) ∧ PySem.W.keepIn X.K (.ref f) = true ∧ Binds X.K fd ps []
/-- what is owned by a slot that is not lent has no owner among the others -/
theorem paired_get {α β : Type} {R : α → β → Prop} : ∀ {as : List α} {bs : List β} {i : Nat} {x : α}, Paired R as bs → as[i]? = some x → ∃ y, bs[i]? = some y ∧ R x y
  | _, _, _, _, .nil, e => by simp at e
  | _, _, 0, _, .cons r _, e => by simp at e; subst e; exact ⟨_, rfl, r⟩
  | _, _, i + 1, x, .cons _ t, e => by
    obtain ⟨y, h1, h2⟩ := paired_get (i := i) (x := x) t (by simpa using e)
    exact ⟨y, by simpa using h1, h2⟩
theorem paired_length {α β : Type} {R : α → β → Prop} : ∀ {as : List α} {bs : List β}, Paired R as bs → as.length = bs.length
  | _, _, .nil => rfl
  | _, _, .cons _ t => by simp [paired_length t]
theorem bindO_get {e : Env} : ∀ {os : List O} {bs : List B}, bindO e os = some bs → bs.length = os.length ∧ ∀ (j : Nat) (o : O), os[j]? = some o → match o with
    | .b x => bs[j]? = some x
    | .s i => ∃ x, at? e i = some x ∧ bs[j]? = some x
  | [], bs, h => by cases h; exact ⟨rfl, fun j o hj => by simp at hj⟩
  | .b x :: os, bs, h => by
    unfold bindO at h
    cases q : bindO e os with
    | none => rw [q] at h; cases h
    | some cs =>
      rw [q] at h
      cases h
      obtain ⟨h1, h2⟩ := bindO_get q
      refine ⟨by simp [h1], fun j o hj => ?_⟩
      cases j with
      | zero => simp at hj; subst hj; rfl
      | succ j =>
        have := h2 j o (by simpa using hj)
        cases o with
        | b y => simpa using this
        | s i => obtain ⟨y, g1, g2⟩ := this; exact ⟨y, g1, by simpa using g2⟩
  | .s i :: os, bs, h => by
    unfold bindO at h
    cases qa : at? e i with
    | none => rw [qa] at h; cases h
    | some x =>
      rw [qa] at h
      cases q : bindO e os with
      | none => rw [q] at h; cases h
      | some cs =>
        rw [q] at h
        cases h
        obtain ⟨h1, h2⟩ := bindO_get q
        refine ⟨by simp [h1], fun j o hj => ?_⟩
        cases j with
        | zero => simp at hj; subst hj; exact ⟨x, qa, rfl⟩
        | succ j =>
          have := h2 j o (by simpa using hj)
          cases o with
          | b y => simpa using this
          | s i => obtain ⟨y, g1, g2⟩ := this; exact ⟨y, g1, by simpa using g2⟩
theorem putBack_length : ∀ (mi : List (Nat × Nat)) (e : Env), (putBack e2 mi e).length = e.length
  | [], e => rfl
  | (j, i) :: r, e => by
    show (putBack e2 r (e.set i (at? e2 j))).length = e.length
    rw [putBack_length r, List.length_set]
theorem putBack_out : ∀ {mi : List (Nat × Nat)} {e : Env} {i : Nat}, (∀ j, (j, i) ∉ mi) → at? (putBack e2 mi e) i = at? e i
  | [], e, i, h => rfl
  | (j0, i0) :: r, e, i, h => by
    show at? (putBack e2 r (e.set i0 (at? e2 j0))) i = at? e i
    rw [putBack_out fun j hj => h j (List.mem_cons_of_mem _ hj)]
    exact at_set_ne fun z => h j0 (by rw [z]; exact List.mem_cons_self)
theorem putBack_in : ∀ {mi : List (Nat × Nat)} {e : Env} {i j : Nat}, (mi.map (·.2)).Nodup → (j, i) ∈ mi → i < e.length → at? (putBack e2 mi e) i = at? e2 j
  | (j0, i0) :: r, e, i, j, nd, h, hi => by
    show at? (putBack e2 r (e.set i0 (at? e2 j0))) i = at? e2 j
    rw [List.map_cons, List.nodup_cons] at nd
    rcases List.mem_cons.mp h with q | q
    · cases q
      rw [putBack_out fun k hk => nd.1 (List.mem_map.mpr ⟨(k, i0), hk, rfl⟩)]
      exact at_set_lt hi
    · exact putBack_in nd.2 q (by rw [List.length_set]; exact hi)
theorem at_lt {e : Env} {i : Nat} {b : B} (h : at? e i = some b) : i < e.length := by
  unfold at? at h
  cases q : e[i]? with
  | none => rw [q] at h; cases h
  | some y => exact (List.getElem?_eq_some_iff.mp q).1
def SlOk (mi : List (Nat × Nat)) (k : Nat) : O → Prop
  | .s i => (k, i) ∈ mi
  | .b x => ∀ (C : Cc) (G H : Hp) (v : V) (fp : Addr → Prop), BOk C G H x v fp → ∀ a, ¬ fp a
theorem slotsOk_s {mi : List (Nat × Nat)} : ∀ {os : List O} {k : Nat}, slotsOk mi k os = true → ∀ (j : Nat) (o : O), os[j]? = some o → SlOk mi (k + j) o
  | [], k, h, j, o, hj => by simp at hj
  | .s i :: os, k, h, j, o, hj => by
    unfold slotsOk at h
    rw [Bool.and_eq_true] at h
    cases j with
    | zero => simp at hj; subst hj; exact (of_decide_eq_true h.1 : (k, i) ∈ mi)
    | succ j =>
      have := slotsOk_s h.2 j o (by simpa using hj)
      rwa [show k + (j + 1) = k + 1 + j from by omega]
  | .b x :: os, k, h, j, o, hj => by
    unfold slotsOk at h
    rw [Bool.and_eq_true] at h
    cases j with
    | zero =>
      simp at hj
      subst hj
      intro C G H v fp hb
      cases x with
      | fr d => exact hb.2
      | ex d => exact hb.2
      | sc d => exact hb.2
      | ow d => exact absurd h.1 (by simp)
      | od d => exact absurd h.1 (by simp)
      | rs n d => exact absurd h.1 (by simp)
      | tr t => exact absurd h.1 (by simp)
    | succ j =>
      have := slotsOk_s h.2 j o (by simpa using hj)
      rwa [show k + (j + 1) = k + 1 + j from by omega]
theorem BOk.noFp {x : B} {G H : Hp} {v : V} {fp : Addr → Prop} (h : BOk C G H x v fp) (n : ∀ a, ¬ fp a) : BOk C G H x v fun _ => False := by
  have e1 : fp = fun _ => False := by funext a; exact propext ⟨fun z => n a z, fun z => z.elim⟩
  rw [← e1]; exact h
/-- the world as the callee has it -/
def WS.lend (w : WS) (mi : List (Nat × Nat)) : WS := { w with fp := fun j a => ∃ i, (j, i) ∈ mi ∧ w.fp i a }
/-- and behind the call -/
def WS.back (w w' : WS) (mi : List (Nat × Nat)) : WS := { w' with fp := fun i a => (∃ j, (j, i) ∈ mi ∧ w'.fp j a) ∨ ((∀ j, (j, i) ∉ mi) ∧ w.fp i a) }
theorem miOk_at {mi : List (Nat × Nat)} {os : List O} (h : miOk mi os = true) {j i : Nat} (hm : (j, i) ∈ mi) : os[j]? = some (.s i) := by
  have z := List.all_eq_true.mp h _ hm
  split at z
  · rename_i i' q
    rw [q]
    have := beq_iff_eq.mp z
    rw [this]
  · cases z
theorem lend_mt {mi : List (Nat × Nat)} {os : List O} {bs : List B} {vs : List V} (m : Mt C π e σ w) (n2 : (mi.map (·.2)).Nodup) (hs : slotsOk mi 0 os = true) (hmi : miOk mi os = true) (hb : bindO e os = some bs) (r : Paired (OOk C σ w0 w) os vs) :
    Mt C [] (bs.map some) (vs.map some) (w.lend mi) := by
  obtain ⟨hl, hg⟩ := bindO_get hb
  have hl2 := paired_length r
  have pos : ∀ {j i}, (j, i) ∈ mi → os[j]? = some (.s i) := fun h => miOk_at hmi h
  have uniq : ∀ {j i i'}, (j, i) ∈ mi → (j, i') ∈ mi → i = i' := fun {j i i'} h h' => by
    have h1 := pos h
    rw [pos h'] at h1
    cases h1
    rfl
  have uniq2 : ∀ {j j' i}, (j, i) ∈ mi → (j', i) ∈ mi → j = j' := fun {j j' i} h h' => by
    have go : ∀ l : List (Nat × Nat), (l.map (·.2)).Nodup → (j, i) ∈ l → (j', i) ∈ l → j = j' := by
      intro l
      induction l with
      | nil => intro _ h; cases h
      | cons p l ih =>
        intro nd h h'
        rw [List.map_cons, List.nodup_cons] at nd
        rcases List.mem_cons.mp h with q | q
        · rcases List.mem_cons.mp h' with q' | q'
          · rw [← q] at q'; cases q'; rfl
          · exact absurd (List.mem_map.mpr ⟨_, q', by rw [← q]⟩) nd.1
        · rcases List.mem_cons.mp h' with q' | q'
          · exact absurd (List.mem_map.mpr ⟨_, q, by rw [← q']⟩) nd.1
          · exact ih nd.2 q q'
    exact go mi n2 h h'
  refine ⟨by rw [List.length_map, List.length_map, hl, hl2], m.sub, fun j b q => ?_, fun j q a z => ?_, fun j j' a x y => ?_, fun p h => by cases h⟩
  · rw [at_map] at q
    have hj : j < os.length := by rw [← hl]; exact (List.getElem?_eq_some_iff.mp q).1
    have ho : os[j]? = some os[j] := List.getElem?_eq_getElem hj
    obtain ⟨v, hv, ov⟩ := paired_get r ho
    refine ⟨v, by rw [List.getElem?_map, hv]; rfl, ?_⟩
    have g := hg j _ ho
    have s := slotsOk_s hs j _ ho
    cases qo : os[j] with
    | b x =>
      rw [qo] at g s ov
      simp only at g
      rw [q] at g
      cases g
      obtain ⟨fp, b1, b2⟩ := ov
      have b3 := b1.noFp (s _ _ _ _ _ b1)
      have e1 : (w.lend mi).fp j = fun _ => False := by
        funext a
        refine propext ⟨fun z => ?_, fun z => z.elim⟩
        obtain ⟨i, hi, _⟩ := z
        have h1 := pos hi
        rw [ho, qo] at h1
        cases h1
      rw [e1]
      exact b3
    | s i =>
      rw [qo] at g s ov
      simp only [Nat.zero_add] at g s
      have s : (j, i) ∈ mi := s
      obtain ⟨x, g1, g2⟩ := g
      rw [q] at g2
      cases g2
      obtain ⟨u, b1, b2⟩ := m.bok i b g1
      have ov' : σ[i]? = some (some v) := ov
      rw [ov'] at b1
      cases b1
      have e1 : (w.lend mi).fp j = w.fp i := by
        funext a
        exact propext ⟨fun ⟨i', h1, h2⟩ => by rw [uniq s h1]; exact h2, fun z => ⟨i, s, z⟩⟩
      rw [e1]
      exact b2
  · rw [at_map] at q
    obtain ⟨i, hi, hz⟩ := z
    have h1 := pos hi
    rw [List.getElem?_eq_none_iff, hl] at q
    rw [List.getElem?_eq_none q] at h1
    cases h1
  · obtain ⟨i, h1, h2⟩ := x
    obtain ⟨i', h3, h4⟩ := y
    have := m.dis i i' a h2 h4
    subst this
    exact uniq2 h1 h3
theorem back_mt {mi : List (Nat × Nat)} {os : List O} {vs : List V} {w' : WS} {k : Nat} (m : Mt C π e σ w) (n2 : (mi.map (·.2)).Nodup) (hmi : miOk mi os = true) (r : Paired (OOk C σ w0 w) os vs) (f : Frm (w.lend mi) w')
    (m' : Mt C [] (mask (mi.map (·.1)) e2 k) (vs.map some) w') (hk : k = vs.length) : Mt C π (putBack e2 mi e) σ (w.back w' mi) ∧ Frm w (w.back w' mi) := by
  have pos : ∀ {j i}, (j, i) ∈ mi → os[j]? = some (.s i) := fun h => miOk_at hmi h
  have notLent : ∀ {i a}, (∀ j, (j, i) ∉ mi) → w.fp i a → (∃ o, w.H a = some o ∧ w.G a = none) ∧ ∀ j, ¬ (w.lend mi).fp j a := fun {i a} h1 h2 => by
    obtain ⟨h3, o, h4⟩ := m.own h2
    refine ⟨⟨o, h4, h3⟩, fun j ⟨i', h5, h6⟩ => ?_⟩
    have := m.dis i i' a h2 h6
    subst this
    exact h1 j h5
  have kept : ∀ {i a}, (∀ j, (j, i) ∉ mi) → w.fp i a → w'.H a = w.H a ∧ w'.G a = w.G a ∧ ∀ j, ¬ w'.fp j a := fun {i a} h1 h2 => by
    obtain ⟨⟨o, h3, h4⟩, h5⟩ := notLent h1 h2
    obtain ⟨g1, g2, g3⟩ := f.k a o h3 h5
    exact ⟨g1.trans h3.symm, g2, g3⟩
  have uniq2 : ∀ {j j' i}, (j, i) ∈ mi → (j', i) ∈ mi → j = j' := fun {j j' i} h h' => by
    have go : ∀ l : List (Nat × Nat), (l.map (·.2)).Nodup → (j, i) ∈ l → (j', i) ∈ l → j = j' := by
      intro l
      induction l with
      | nil => intro _ h; cases h
      | cons p l ih =>
        intro nd h h'
        rw [List.map_cons, List.nodup_cons] at nd
        rcases List.mem_cons.mp h with q | q
        · rcases List.mem_cons.mp h' with q' | q'
          · rw [← q] at q'; cases q'; rfl
          · exact absurd (List.mem_map.mpr ⟨_, q', by rw [← q]⟩) nd.1
        · rcases List.mem_cons.mp h' with q' | q'
          · exact absurd (List.mem_map.mpr ⟨_, q, by rw [← q']⟩) nd.1
          · exact ih nd.2 q q'
    exact go mi n2 h h'
  have uniq : ∀ {j i i'}, (j, i) ∈ mi → (j, i') ∈ mi → i = i' := fun {j i i'} h h' => by
    have h1 := pos h
    rw [pos h'] at h1
    cases h1
    rfl
  refine ⟨⟨by rw [putBack_length]; exact m.len, m'.sub, fun i b q => ?_, fun i q a z => ?_, fun i i' a x y => ?_, m.pin⟩, ⟨f.g, fun a o h n => ?_, f.t⟩⟩
  · by_cases hm : ∃ j, (j, i) ∈ mi
    · obtain ⟨j, hj⟩ := hm
      have ho := pos hj
      obtain ⟨v, hv, ov⟩ := paired_get r ho
      have hi : i < e.length := by rw [← putBack_length (e2 := e2) mi e]; exact at_lt q
      rw [putBack_in n2 hj hi] at q
      have hjv := (List.getElem?_eq_some_iff.mp hv).1
      have q2 : at? (mask (mi.map (·.1)) e2 k) j = some b := by
        unfold mask
        unfold at?
        rw [List.getElem?_map, List.getElem?_range (by rw [hk]; exact hjv)]
        simp only [Option.map_some]
        rw [if_pos (List.mem_map.mpr ⟨(j, i), hj, rfl⟩)]
        exact q
      obtain ⟨u, g1, g2⟩ := m'.bok j b q2
      rw [List.getElem?_map, hv] at g1
      have ev : v = u := Option.some.inj (Option.some.inj g1)
      subst ev
      have ov' : σ[i]? = some (some v) := ov
      refine ⟨v, ov', ?_⟩
      have e1 : (w.back w' mi).fp i = w'.fp j := by
        funext a
        refine propext ⟨fun z => ?_, fun z => .inl ⟨j, hj, z⟩⟩
        rcases z with ⟨j', h1, h2⟩ | ⟨h1, _⟩
        · rw [uniq2 hj h1]; exact h2
        · exact absurd hj (h1 j)
      rw [e1]
      exact g2
    · have hn : ∀ j, (j, i) ∉ mi := fun j hj => hm ⟨j, hj⟩
      rw [putBack_out hn] at q
      obtain ⟨v, g1, g2⟩ := m.bok i b q
      refine ⟨v, g1, ?_⟩
      have e1 : (w.back w' mi).fp i = w.fp i := by
        funext a
        refine propext ⟨fun z => ?_, fun z => .inr ⟨hn, z⟩⟩
        rcases z with ⟨j', h1, h2⟩ | ⟨h1, h2⟩
        · exact absurd h1 (hn j')
        · exact h2
      rw [e1]
      exact g2.mono f.g fun a ha => ⟨(kept hn ha).1, (kept hn ha).2.1⟩
  · rcases z with ⟨j, h1, h2⟩ | ⟨h1, h2⟩
    · by_cases hi : i < e.length
      · rw [putBack_in n2 h1 hi] at q
        refine m'.non j ?_ a h2
        unfold mask
        unfold at?
        by_cases hjk : j < k
        · rw [List.getElem?_map, List.getElem?_range hjk]
          simp only [Option.map_some]
          rw [if_pos (List.mem_map.mpr ⟨(j, i), h1, rfl⟩)]
          exact q
        · rw [List.getElem?_eq_none (by simpa using hjk)]
      · -- no such slot
        obtain ⟨v, hv, ov⟩ := paired_get r (pos h1)
        have ov' : σ[i]? = some (some v) := ov
        have := (List.getElem?_eq_some_iff.mp ov').1
        rw [← m.len] at this
        exact absurd this hi
    · rw [putBack_out h1] at q
      exact m.non i q a h2
  · rcases x with ⟨j, h1, h2⟩ | ⟨h1, h2⟩
    · rcases y with ⟨j', h3, h4⟩ | ⟨h3, h4⟩
      · have := m'.dis j j' a h2 h4
        subst this
        exact uniq h1 h3
      · exact absurd h2 ((kept h3 h4).2.2 j)
    · rcases y with ⟨j', h3, h4⟩ | ⟨h3, h4⟩
      · exact absurd h4 ((kept h1 h2).2.2 j')
      · exact m.dis i i' a h2 h4
  · have hn : ∀ j, ¬ (w.lend mi).fp j a := fun j ⟨i, _, z⟩ => n i z
    obtain ⟨h1, h2, h3⟩ := f.k a o h hn
    refine ⟨h1, h2, fun i z => ?_⟩
    rcases z with ⟨j, _, z⟩ | ⟨_, z⟩
    · exact h3 j z
    · exact n i z
theorem ve_call {x : Str} {n k : Nat} {mi : List (Nat × Nat)} {F : Fn} (V0 : Vx X W) (c : Cal X ρ x n (mi.map (·.1)) F k) (hr : Room k X.A) (ha : VA X ρ W (a :: es) as_) (n2 : (mi.map (·.2)).Nodup := by decide) (hg : Gl X x := by rfl)
    (hdb : (x == ("__debug__" : Str)) = false := by decide) (he : starEach (a :: es) X.env = (false, eval a X.env) :: starEach es X.env := by rfl) (hpl : (backTo pos (starEach es X.env)).any (·.1) = false := by rfl) :
    VE X ρ W (.Call (.Name x p) (a :: es) [] pos) (fCall F n mi as_) := by
  obtain ⟨f, fd, ps, FO, gm, gk, gb⟩ := c.ex
  obtain ⟨t, pa, s⟩ := ha
  refine ⟨_, pe_callG FO hr V0.gd V0.sm hg gm gk gb (fun σ => passAt V0.tk σ) pa hdb he hpl, fun π e σ w Q m h => ?_⟩
  refine s π e σ w _ m (h.bnd fun os e1 vs w1 m1 f1 k1 h1 => ?_)
  have h2 := h1.from f1
  split at h2
  case isFalse => exact h2.elim
  case isTrue hok =>
    rw [Bool.and_eq_true, Bool.and_eq_true] at hok
    obtain ⟨hok, hlen⟩ := hok
    have hlen := beq_iff_eq.mp hlen
    cases qb : bindO e1 os with
    | none => rw [qb] at h2; exact h2.elim
    | some bs =>
      rw [qb] at h2
      simp only [Option.bind_some] at h2
      refine ⟨?_, bs, w1.lend mi, rfl, lend_mt m1 n2 hok.1 hok.2 qb k1, ?_⟩
      · rw [← paired_length k1]; exact hlen
      · cases qF : F bs with
        | none => rw [qF] at h2; exact h2.elim
        | some r =>
          rw [qF] at h2
          cases r with
          | ret b e2 =>
            intro v w' m' f' k'
            obtain ⟨g1, g2⟩ := back_mt m1 n2 hok.2 k1 f' m' rfl
            refine h2 v (w1.back w' mi) g1 g2 ?_
            obtain ⟨fp, b1, b2⟩ := k'
            refine ⟨fp, b1, fun a ha => ⟨f1.back ?_, fun i z => ?_⟩⟩
            · rcases (b2 a ha).1 with q | ⟨j, i, q1, q2⟩
              · exact .inl q
              · exact .inr ⟨i, q2⟩
            · rcases z with ⟨j, _, z⟩ | ⟨hn, z⟩
              · exact (b2 a ha).2 j z
              · obtain ⟨_, o, ho⟩ := m1.own z
                rcases (b2 a ha).1 with q | ⟨j, i', q1, q2⟩
                · have q' : w1.H a = none := q
                  rw [ho] at q'; cases q'
                · have := m1.dis i i' a z q2
                  subst this
                  exact hn j q1
          | ex c e2 =>
            intro w' A hA m' f'
            obtain ⟨g1, g2⟩ := back_mt m1 n2 hok.2 k1 f' m' rfl
            exact h2 (w1.back w' mi) A hA g1 g2
/-- the world in which what the arguments' slots own is frozen -/
noncomputable def WS.lent (w : WS) (os : List O) : WS := by
  classical
  exact { G := fun a => if ∃ i, O.s i ∈ os ∧ w.fp i a then w.H a else w.G a, H := w.H, fp := fun _ _ => False }
theorem lent_G (m : Mt C π e σ w) {os : List O} : Same w.G (w.lent os).G := fun a o h => by
  classical
  show (if ∃ i, O.s i ∈ os ∧ w.fp i a then w.H a else w.G a) = some o
  by_cases z : ∃ i, O.s i ∈ os ∧ w.fp i a
  · obtain ⟨i, _, z⟩ := z
    obtain ⟨h1, _⟩ := m.own z
    rw [h] at h1; cases h1
  · rw [if_neg z]; exact h
theorem lent_sub (m : Mt C π e σ w) {os : List O} : Same (w.lent os).G w.H := fun a o h => by
  classical
  have h' : (if ∃ i, O.s i ∈ os ∧ w.fp i a then w.H a else w.G a) = some o := h
  by_cases z : ∃ i, O.s i ∈ os ∧ w.fp i a
  · rw [if_pos z] at h'; exact h'
  · rw [if_neg z] at h'; exact m.sub a o h'
theorem lent_at {os : List O} {i : Nat} {a : Addr} (h : O.s i ∈ os) (h2 : w.fp i a) : (w.lent os).G a = w.H a := by
  classical
  show (if ∃ i, O.s i ∈ os ∧ w.fp i a then w.H a else w.G a) = w.H a
  rw [if_pos ⟨i, h, h2⟩]
theorem lent_bok (m : Mt C π e σ w) {os : List O} {i : Nat} {x y : B} {v : V} (h : O.s i ∈ os) (hx : BOk C w.G w.H x v (w.fp i)) (hy : lent x = some y) : BOk C (w.lent os).G w.H y v fun _ => False := by
  have g := lent_G (os := os) m
  cases x with
  | fr d => cases hy; exact ⟨hx.1.mono g, fun _ z => z⟩
  | ow ds =>
    cases hy
    obtain ⟨p, xs, rfl, h1, h2, h3, h4⟩ := hx
    have e1 := lent_at (os := os) h ((h4 p).mpr rfl)
    exact ⟨.lst (e1.trans h2) (h3.mono g), fun _ z => z⟩
  | od ds =>
    cases hy
    obtain ⟨p, xs, rfl, h1, h2, h3, h5, h4⟩ := hx
    have e1 := lent_at (os := os) h ((h4 p).mpr rfl)
    exact ⟨.dic (e1.trans h2) h3 (h5.mono g), fun _ z => z⟩
  | ex c =>
    cases hy
    obtain ⟨⟨p, A, h1, h2, h3⟩, _⟩ := hx
    exact ⟨⟨p, A, h1, h2, g _ _ h3⟩, fun _ z => z⟩
  | sc ns =>
    cases hy
    obtain ⟨⟨p, h1, h2⟩, _⟩ := hx
    exact ⟨⟨p, h1, g.seq h2⟩, fun _ z => z⟩
  | rs n d => cases hy
  | tr t =>
    have hy' : (t.dat.map B.fr) = some y := hy
    cases qd : t.dat with
    | none => rw [qd] at hy'; cases hy'
    | some d =>
      rw [qd] at hy'
      cases hy'
      obtain ⟨as, g1, g2, g3⟩ := hx
      exact ⟨g1.rp g (fun a ha => lent_at (os := os) h ((g3 a).mpr ha)) qd, fun _ z => z⟩
theorem lent_mt (m : Mt C π e σ w) {os' : List O} : ∀ {os : List O} {bs : List B} {vs : List V}, (∀ o ∈ os, o ∈ os') → flatO os = true → lendO e os = some bs → Paired (OOk C σ w0 w) os vs →
    bs.length = vs.length ∧ ∀ (j : Nat) (b : B), bs[j]? = some b → ∃ v, vs[j]? = some v ∧ BOk C (w.lent os').G w.H b v fun _ => False
  | [], bs, _, _, _, h, .nil => by cases h; exact ⟨rfl, fun j b q => by simp at q⟩
  | .b x :: os, bs, v :: vs, hs, hf, h, .cons r t => by
    unfold lendO at h
    unfold flatO at hf
    rw [Bool.and_eq_true] at hf
    cases q : lendO e os with
    | none => rw [q] at h; cases h
    | some cs =>
      rw [q] at h
      cases h
      obtain ⟨h1, h2⟩ := lent_mt m (fun o ho => hs o (List.mem_cons_of_mem _ ho)) hf.2 q t
      refine ⟨by simp [h1], fun j b qb => ?_⟩
      cases j with
      | zero =>
        simp at qb
        subst qb
        refine ⟨v, rfl, ?_⟩
        obtain ⟨fp, b1, b2⟩ := r
        have b3 : BOk C w.G w.H x v fun _ => False := by
          cases x with
          | fr d => exact ⟨b1.1, fun _ z => z⟩
          | ex d => exact ⟨b1.1, fun _ z => z⟩
          | sc d => exact ⟨b1.1, fun _ z => z⟩
          | ow d => exact absurd hf.1 (by simp)
          | od d => exact absurd hf.1 (by simp)
          | rs n d => exact absurd hf.1 (by simp)
          | tr t => exact absurd hf.1 (by simp)
        exact b3.mono (lent_G m) (fun _ z => z.elim)
      | succ j => exact h2 j b (by simpa using qb)
  | .s i :: os, bs, v :: vs, hs, hf, h, .cons r t => by
    unfold lendO at h
    cases qa : (at? e i).bind lent with
    | none => rw [qa] at h; cases h
    | some y =>
      rw [qa] at h
      cases q : lendO e os with
      | none => rw [q] at h; cases h
      | some cs =>
        rw [q] at h
        cases h
        obtain ⟨h1, h2⟩ := lent_mt m (fun o ho => hs o (List.mem_cons_of_mem _ ho)) (by unfold flatO at hf; exact hf) q t
        refine ⟨by simp [h1], fun j b qb => ?_⟩
        cases j with
        | zero =>
          simp at qb
          subst qb
          refine ⟨v, rfl, ?_⟩
          cases qx : at? e i with
          | none => rw [qx] at qa; cases qa
          | some x =>
            rw [qx] at qa
            obtain ⟨u, g1, g2⟩ := m.bok i x qx
            have r' : σ[i]? = some (some v) := r
            rw [r'] at g1
            cases g1
            exact lent_bok m (hs _ List.mem_cons_self) g2 qa
        | succ j => exact h2 j b (by simpa using qb)
theorem flat_rp {K : PySem.W.Frag} {G G' : Hp} {v : V} {d : PyData} (h : Rp K G v d) (hf : isFlat d = true) : Rp K G' v d := by
  cases h with
  | non => exact .non
  | bl b => exact .bl b
  | int i => exact .int i
  | str x => exact .str x
  | lst _ _ => cases hf
  | tup _ _ => cases hf
  | dic _ _ _ => cases hf
theorem ve_callP {x : Str} {n k : Nat} {F : Fn} (V0 : Vx X W) (c : Cal X ρ x n [] F k) (hr : Room k X.A) (ha : VA X ρ W (a :: es) as_) (hg : Gl X x := by rfl)
    (hdb : (x == ("__debug__" : Str)) = false := by decide) (he : starEach (a :: es) X.env = (false, eval a X.env) :: starEach es X.env := by rfl) (hpl : (backTo pos (starEach es X.env)).any (·.1) = false := by rfl) :
    VE X ρ W (.Call (.Name x p) (a :: es) [] pos) (fCallP F n as_) := by
  obtain ⟨f, fd, ps, FO, gm, gk, gb⟩ := c.ex
  obtain ⟨t, pa, s⟩ := ha
  refine ⟨_, pe_callG FO hr V0.gd V0.sm hg gm gk gb (fun σ => passAt V0.tk σ) pa hdb he hpl, fun π e σ w Q m h => ?_⟩
  refine s π e σ w _ m (h.bnd fun os e1 vs w1 m1 f1 k1 h1 => ?_)
  have h2 := h1.from f1
  split at h2
  case isFalse => exact h2.elim
  case isTrue hfo =>
  cases qb : lendO e1 os with
  | none => rw [qb] at h2; exact h2.elim
  | some bs =>
    rw [qb] at h2
    simp only [Option.bind_some] at h2
    split at h2
    case isFalse => exact h2.elim
    case isTrue hn =>
      obtain ⟨hl, hb⟩ := lent_mt (os' := os) m1 (fun o ho => ho) hfo qb k1
      have mc : Mt (cc X ρ) [] (bs.map some) (vs.map some) (w1.lent os) := ⟨by simp [hl], lent_sub m1, fun i b q => by
        rw [at_map] at q
        obtain ⟨v, g1, g2⟩ := hb i b q
        exact ⟨v, by rw [List.getElem?_map, g1]; rfl, g2⟩, fun i q a z => z, fun i j a z _ => z.elim, fun p h => by cases h⟩
      refine ⟨hl.symm.trans hn, bs, w1.lent os, rfl, mc, ?_⟩
      -- behind it: all owned as before
      have back : ∀ {w' : WS}, Frm (w1.lent os) w' → Mt (cc X ρ) π e1 σ { G := w1.G, H := w'.H, fp := w1.fp } ∧ Frm w1 { G := w1.G, H := w'.H, fp := w1.fp } := fun {w'} f' => by
        have keep : ∀ a o, w1.H a = some o → w'.H a = some o := fun a o h => (f'.k a o h fun _ z => z).1
        refine ⟨⟨m1.len, fun a o q => keep a o (m1.sub a o q), fun i b q => ?_, m1.non, m1.dis, m1.pin⟩, ⟨Same.refl _, fun a o h n => ⟨keep a o h, rfl, n⟩, f'.t⟩⟩
        obtain ⟨v, g1, g2⟩ := m1.bok i b q
        refine ⟨v, g1, g2.mono (Same.refl _) fun a ha => ⟨?_, rfl⟩⟩
        obtain ⟨_, o, ho⟩ := g2.own a ha
        exact (keep a o ho).trans ho.symm
      split at h2
      · rename_i d e2 qF
        rw [qF]
        split at h2
        · rename_i hfl
          intro v w' m' f' k'
          obtain ⟨g1, g2⟩ := back f'
          obtain ⟨fp, b1, b2⟩ := k'
          exact h2 v { G := w1.G, H := w'.H, fp := w1.fp } g1 g2 (.fr (flat_rp b1.1 hfl))
        · exact h2.elim
      · rename_i cc_ e2 qF
        rw [qF]
        intro w' A hA m' f'
        obtain ⟨g1, g2⟩ := back f'
        exact h2 { G := w1.G, H := w'.H, fp := w1.fp } A hA g1 g2
      · exact h2.elim
end
end VL
set_option maxRecDepth 100000
namespace VL
open PySem L2
section
variable {X : Cx} {ρ : Nat → Res} {W : WX} {pn : List Nat} {a b c o : Expr} {es : List Expr} {pos p apos cpos : Pos} {fa fb fc fx fv fy : FE} {fd : FD} {as_ : FA} {C : Cc} {π : List (Nat × V)} {e e1 e2 : Env} {σ : St} {w w0 w1 w2 : WS}
/-- the list of a name changed -/
theorem Mt.mut {i : Nat} {ds ds' : List PyData} (m : Mt C π e σ w) (h : at? e i = some (.ow ds)) : ∃ p xs, σ[i]? = some (some (.ref p)) ∧ w.H p = some (.lst xs) ∧ w.G p = none ∧ RpAll C.K w.G xs ds ∧
    ∀ xs', RpAll C.K w.G xs' ds' → Mt C π (e.set i (some (.ow ds'))) σ { w with H := upd w.H p (.lst xs') } ∧ Frm w { w with H := upd w.H p (.lst xs') } := by
  obtain ⟨v, h1, h2⟩ := m.bok i _ h
  obtain ⟨p, xs, rfl, g1, g2, g3, g4⟩ := h2
  refine ⟨p, xs, h1, g2, g1, g3, fun xs' r => ⟨⟨by rw [List.length_set]; exact m.len, fun a o q => ?_, fun j b q => ?_, fun j q a z => ?_, m.dis, m.pin⟩, ⟨Same.refl _, fun a o q n => ⟨?_, rfl, n⟩, fun a q => ?_⟩⟩⟩
  · show upd w.H p (.lst xs') a = some o
    rw [upd_ne (ne_of_none q g1)]
    exact m.sub a o q
  · by_cases hj : i = j
    · subst hj
      rw [at_set_same h] at q
      cases q
      exact ⟨.ref p, h1, p, xs', rfl, g1, upd_same, r, g4⟩
    · rw [at_set_ne hj] at q
      obtain ⟨u, k1, k2⟩ := m.bok j b q
      refine ⟨u, k1, k2.mono (Same.refl _) fun a ha => ⟨upd_ne fun z => ?_, rfl⟩⟩
      subst z
      exact hj (m.dis i j a ((g4 a).mpr rfl) ha)
  · by_cases hj : i = j
    · subst hj
      rw [at_set_same h] at q
      cases q
    · rw [at_set_ne hj] at q
      exact m.non j q a z
  · show upd w.H p (.lst xs') a = some o
    rw [upd_ne fun z => n i (by rw [z]; exact (g4 p).mpr rfl)]
    exact q
  · by_cases z : a = p
    · rw [z] at q
      have q' : upd w.H p (.lst xs') p = none := q
      rw [upd_same] at q'
      cases q'
    · have q' : upd w.H p (.lst xs') a = none := q
      rw [upd_ne z] at q'
      exact q'
/-- a method that changes its list -/
def MthV (X : Cx) (id : String) (g : List PyData → List PyData → Option (B × List PyData)) : Prop := ∃ r, MtR X id r ∧
  ∀ (G H : Hp) (p : Addr) (xs vs : List V) (ds as : List PyData) (b : B) (ds' : List PyData) (Q : VK), H p = some (.lst xs) → Same G H → G p = none → RpAll X.K G xs ds → RpAll X.K G vs as → g ds as = some (b, ds') →
    (∀ v d xs', b = .fr d → Rp X.K G v d → RpAll X.K G xs' ds' → Q v (upd H p (.lst xs'))) → r (.ref p) vs H Q
theorem se_mth {r : V → List V → Hp → VK → Prop} {g : List PyData → List PyData → Option (B × List PyData)} {i : Nat} {t : TA} (hr : ∀ (G H : Hp) (p : Addr) (xs vs : List V) (ds as : List PyData) (b : B) (ds' : List PyData) (Q : VK), H p = some (.lst xs) → Same G H → G p = none → RpAll C.K G xs ds → RpAll C.K G vs as → g ds as = some (b, ds') →
    (∀ v d xs', b = .fr d → Rp C.K G v d → RpAll C.K G xs' ds' → Q v (upd H p (.lst xs'))) → r (.ref p) vs H Q) (s : SD C W t fd) : SE C W (tBM C.K "list" r (tVar i) t) (fMth i g fd) := fun π e σ w Q m h => by
  unfold fMth at h
  split at h
  case h_2 => exact h.elim
  case h_1 dd q =>
    obtain ⟨v0, h1, h2⟩ := m.bok i _ q
    refine ⟨v0, h1, ?_⟩
    have h3 : Post C W π σ w (bnd (fd e) fun as e1 => match at? e1 i with
      | some (.ow ds) => (g ds as).bind fun p => some (.ok (O.b p.1) (e1.set i (some (.ow p.2))))
      | _ => none) (OOk C σ w) Q := h
    -- what the name holds is a list of its own, ahead too
    have hty : tyV C.K "list" v0 w.H := by
      obtain ⟨p, xs, rfl, _, g2, _⟩ := h2
      exact .inl ⟨rfl, xs, .of g2⟩
    refine ⟨hty, s π e σ w _ m (h3.bnd fun as e1 vs w1 m1 f1 k1 h4 => ?_)⟩
    have h5 := h4.from f1
    split at h5
    · rename_i ds q1
      cases qg : g ds as with
      | none => rw [qg] at h5; exact h5.elim
      | some pr =>
        rw [qg] at h5
        obtain ⟨b, ds'⟩ := pr
        simp only [Option.bind_some] at h5
        obtain ⟨p, xs, g1, g2, g3, g4, g5⟩ := m1.mut (ds' := ds') q1
        rw [h1] at g1
        cases g1
        refine hr w1.G w1.H p xs vs ds as b ds' Q g2 m1.sub g3 g4 k1 qg fun v d xs' eb rv rx => ?_
        subst eb
        obtain ⟨m2, f2⟩ := g5 xs' rx
        exact h5 v _ m2 f2 (.fr rv)
    · exact h5.elim
theorem ve_mth {name : Str} {id : String} {y : Str} {g : List PyData → List PyData → Option (B × List PyData)} {py : Pos} (hm : MthV X id g) (i : Nat) (slot : Slot "list" name id) (hty : typeOf (.builtin id) = pure (.type "method_descriptor")) (ha : VD X ρ W (a :: es) fd)
    (hN : X.N[i]? = some y := by rfl) (hv : Vis X.env.scope y := by first | exact Or.inl rfl | exact Or.inr (Or.inl rfl) | exact Or.inr (Or.inr rfl)) (hd : (y == ("__debug__" : Str)) = false := by decide) (hcd : (y == ("__classdict__" : Str)) = false := by decide)
    (hbase : attributeBase (.Name y py) name X.env (eval (.Name y py) X.env) = eval (.Name y py) X.env := by rfl)
    (hfew : ((backTo cpos (starEach (a :: es) X.env)).all (fun x => !x.1) && (backToKw cpos (keywordEach [] X.env)).all (fun x => x.1.isSome)
      && decide ((a :: es).length + ([] : List Keyword).length + (if ([] : List Keyword).isEmpty then 0 else 1) < 30)) = true := by rfl)
    (hline : (apos.endLine == cpos.line) = true := by rfl) (hs : starEach (a :: es) X.env = (false, eval a X.env) :: starEach es X.env := by rfl) (hplain : (backTo cpos (starEach es X.env)).any (·.1) = false := by rfl) :
    VE X ρ W (.Call (.Attribute (.Name y py) name apos) (a :: es) [] cpos) (fMth i g fd) := by
  obtain ⟨r, h1, h2⟩ := hm
  obtain ⟨t, pa, s⟩ := ha
  exact ⟨_, pe_bm PySem.F.plainAttrs_list slot hty h1 (pe_var hN hv hd hcd) pa hbase hfew hline hs hplain, se_mth h2 s⟩
theorem lt_big {n : Nat} (h : n < big) : n < sizeLine := Nat.lt_of_lt_of_le h big_le
theorem RpAll.dropLast {K : PySem.W.Frag} {G : Hp} {vs : List V} {ds : List PyData} (h : RpAll K G vs ds) : RpAll K G vs.dropLast ds.dropLast := by
  rw [List.dropLast_eq_take, List.dropLast_eq_take, h.length]
  exact h.take _
theorem v_pop : MthV X "list.pop" mPop := by
  refine ⟨_, MtR.or mt_pop mt_popAt, fun G H p xs vs ds as b ds' Q hp s hG rx rv hg k => ?_⟩
  unfold mPop at hg
  split at hg
  · cases rv
    cases q : ds[ds.length - 1]? with
    | none => rw [q] at hg; cases hg
    | some d =>
      rw [q] at hg
      cases hg
      obtain ⟨v, h1, h2⟩ := rx.get q
      exact .inl ⟨p, xs, v, rfl, rfl, hp, by rw [rx.length]; exact h1, k v d _ rfl h2 rx.dropLast⟩
  · split at hg
    · rename_i i hl
      have hl' : -(2 ^ 63) ≤ i ∧ i < 2 ^ 63 := by
        unfold lim63 at hl
        rw [decide_eq_true_eq] at hl
        omega
      cases rv with
      | cons r1 r2 =>
        cases r2
        cases r1
        cases q : seqIndex? i ds.length with
        | none => rw [q] at hg; cases hg
        | some n =>
          rw [q] at hg
          simp only [Option.bind_some] at hg
          cases q2 : ds[n]? with
          | none => rw [q2] at hg; cases hg
          | some d =>
            rw [q2] at hg
            cases hg
            obtain ⟨v, h1, h2⟩ := rx.get q2
            exact .inr ⟨p, xs, i, n, v, rfl, rfl, hp, hl'.1, hl'.2, by rw [rx.length]; exact q, h1, k v d _ rfl h2 (rx.eraseIdx n)⟩
    · cases hg
  · cases hg
theorem v_insert : MthV X "list.insert" mInsert := by
  refine ⟨_, mt_insert, fun G H p xs vs ds as b ds' Q hp s hG rx rv hg k => ?_⟩
  unfold mInsert at hg
  split at hg
  · split at hg
    · rename_i i d hb
      cases hg
      cases rv with
      | cons r1 r2 =>
        cases r1
        cases r2 with
        | cons r3 r4 =>
          cases r4
          exact ⟨p, xs, i, _, rfl, rfl, hp, by rw [rx.length]; exact lt_big hb.2.2, hb.1, by omega, k .non .none _ rfl .non (((rx.take _).append (.cons r3 .nil)).append (rx.drop _))⟩
    · cases hg
  · cases hg
end
end VL
set_option maxRecDepth 100000
namespace VL
open PySem L2
section
variable {X : Cx} {ρ : Nat → Res} {W : WX} {pn : List Nat} {a b c o tg : Expr} {es : List Expr} {pos p apos cpos : Pos} {fa fb fc fx fv fy : FE} {fd : FD} {ft : FG} {as_ : FA} {C : Cc} {π : List (Nat × V)} {e e1 e2 : Env} {σ : St} {w w0 w1 w2 : WS}
theorem bndS_bnd {α β : Type} {r : Option (Out α)} {F : α → Env → Option (Out β)} {kk : β → Env → Option SO} : bndS (bnd r F) kk = bndS r fun a e => bndS (F a e) kk := by
  cases r with
  | none => rfl
  | some x => cases x <;> rfl
theorem put_sound {ti : TE} {i : Nat} {d : PyData} {x : V} {D : Ends} {kk : Unit → Env → Option SO} {Qt : St → Hp → Prop} (s : SE C W ti fx) (m : Mt C π e σ w) (r : Rp C.K w.G x d) (h : PostS C W π w (bndS (putAt i fx d e) kk) D)
    (hk : ∀ e2 w2, Mt C π e2 σ w2 → Frm w w2 → PostS C W π w2 (kk () e2) D → Qt σ w2.H) : gSub (tVar i) ti rSetL x σ w.H Qt := by
  unfold putAt at h
  cases q : at? e i with
  | none => rw [q] at h; exact h.elim
  | some b =>
    rw [q] at h
    obtain ⟨v, h1, h2⟩ := m.bok i b q
    refine ⟨v, h1, ?_⟩
    have h' : PostS C W π w (bndS (bnd (fx e) fun o e1 => match res e1 o, at? e1 i with
      | some (.int k), some (.ow ds) => (ixN ds.length k).bind fun j => some (.ok () (e1.set i (some (.ow (ds.set j d)))))
      | _, _ => none) kk) D := h
    rw [bndS_bnd] at h'
    refine s π e σ w _ m (h'.bnd fun o1 e1 v1 w1 m1 f1 k1 h3 => ?_)
    split at h3
    · rename_i k ds q1 q2
      cases qj : ixN ds.length k with
      | none => rw [qj] at h3; exact h3.elim
      | some j =>
        rw [qj] at h3
        simp only [Option.bind_some] at h3
        obtain ⟨p, xs, g1, g2, g3, g4, g5⟩ := m1.mut (ds' := ds.set j d) q2
        rw [h1] at g1
        cases g1
        have rk := res_sound m1 k1 q1
        cases rk
        obtain ⟨m2, f2⟩ := g5 (xs.set j x) (RpAll.set (r.mono f1.g) j g4)
        exact ⟨p, xs, k, j, rfl, rfl, g2, by rw [g4.length]; exact qj, hk _ _ m2 (f1.trans f2) (h3.from (f1.trans f2))⟩
    · exact h3.elim
theorem ss_put {te ti : TE} {i : Nat} (sv : SE C W te fv) (sx : SE C W ti fx) : SS C W pn (tAsg te (gSub (tVar i) ti rSetL)) (sPut i fx fv) := fun π e σ w D hp m h => by
  refine sv π e σ w _ m (h.bnd fun o1 e1 v1 w1 m1 f1 k1 h1 => ?_)
  cases q : fz e1 o1 with
  | none => rw [q] at h1; exact h1.elim
  | some pr =>
    rw [q] at h1
    obtain ⟨w2, m2, f2, eH, rp⟩ := fz_sound (e' := pr.2) m1 f1 k1 q
    rw [← eH]
    exact put_sound sx m2 rp (h1.from f2) fun e3 w3 m3 f3 h3 => h3 σ w3 m3 (.refl _)
theorem vs_put {x : Str} {py ps : Pos} (i : Nat) (hx : VE X ρ W b fx) (hv : VE X ρ W a fv) (hN : X.N[i]? = some x := by rfl) (hvs : Vis X.env.scope x := by first | exact Or.inl rfl | exact Or.inr (Or.inl rfl) | exact Or.inr (Or.inr rfl)) (hd : (x == ("__debug__" : Str)) = false := by decide)
    (hcd : (x == ("__classdict__" : Str)) = false := by decide) (hs : swapsWithSole [.Subscript (.Name x py) b ps] a pos.line X.env = pure false := by rfl) (hw : swappedStores [.Subscript (.Name x py) b ps] a X.env = pure none := by rfl)
    (h1 : (assignEach [.Subscript (.Name x py) b ps] X.env).map (·.2) = [assign (.Subscript (.Name x py) b ps) X.env] := by rfl)
    (ha : ∀ v, assign (.Subscript (.Name x py) b ps) X.env v = (do
      let ov ← holding [v] (eval (.Name x py) X.env)
      let iv ← holding [v, ov] (eval b X.env)
      standAt ps
      holding [v, ov, iv] (setItem ov iv v)
      release [v, ov, iv] []) := by intro _; rfl) : VS X ρ W pn (.Assign [.Subscript (.Name x py) b ps] a pos) (sPut i fx fv) := by
  obtain ⟨t, p, s⟩ := hx
  obtain ⟨t2, p2, s2⟩ := hv
  exact ⟨_, ps_asg p2 (pg_sub (pe_var hN hvs hd hcd) p set_list ha) hs hw h1, ss_put s2 s⟩
end
end VL
set_option maxRecDepth 100000
namespace VL
open PySem L2
/-- the built-in types that are asked for -/
inductive Ty where
  | int | bool | str | list | tuple | dict
def Ty.nm : Ty → String
  | .int => "int" | .bool => "bool" | .str => "str" | .list => "list" | .tuple => "tuple" | .dict => "dict"
def tyN : PyData → String
  | .none => "NoneType"
  | .bool _ => "bool"
  | .int _ => "int"
  | .str _ => "str"
  | .list _ => "list"
  | .tuple _ => "tuple"
  | .dict _ => "dict"
def isD : Ty → PyData → Bool
  | .int, .int _ => true
  | .int, .bool _ => true
  | .bool, .bool _ => true
  | .str, .str _ => true
  | .list, .list _ => true
  | .tuple, .tuple _ => true
  | .dict, .dict _ => true
  | _, _ => false
def fIsi (T : Ty) (fa : FE) : FE := fun e => bnd (fa e) fun o e1 => (res e1 o).bind fun d => okD (.bool (isD T d)) e1
theorem kit_is (T : Ty) : ∀ d, kitB (tyN d) T.nm = some (isD T d) := by
  have h : ∀ T : Ty, kitB "NoneType" T.nm = some false ∧ kitB "bool" T.nm = some (isD T (.bool true)) ∧ kitB "int" T.nm = some (isD T (.int 0)) ∧ kitB "str" T.nm = some (isD T (.str "")) ∧ kitB "list" T.nm = some (isD T (.list [])) ∧ kitB "tuple" T.nm = some (isD T (.tuple [])) ∧ kitB "dict" T.nm = some (isD T (.dict [])) := by
    intro T
    cases T <;> decide +kernel
  obtain ⟨h1, h2, h3, h4, h5, h6, h7⟩ := h T
  intro d
  cases d with
  | none => exact h1.trans (by cases T <;> rfl)
  | bool b => exact h2.trans (by cases T <;> rfl)
  | int b => exact h3.trans (by cases T <;> rfl)
  | str b => exact h4.trans (by cases T <;> rfl)
  | list b => exact h5.trans (by cases T <;> rfl)
  | tuple b => exact h6.trans (by cases T <;> rfl)
  | dict b => exact h7.trans (by cases T <;> rfl)
section
variable {X : Cx} {ρ : Nat → Res} {W : WX} {pn : List Nat} {a b c o tg : Expr} {es : List Expr} {pos p p2 apos cpos : Pos} {fa fb fc fx fv fy : FE} {fd : FD} {ft : FG} {as_ : FA} {C : Cc} {π : List (Nat × V)} {e e1 e2 : Env} {σ : St} {w w0 w1 w2 : WS}
theorem Rq.ty {K : PySem.W.Frag} {G H : Hp} {v : V} {d : PyData} (r : Rq K G H v d) (s : Same G H) : TyX K H v (.type (tyN d)) := by
  cases d with
  | none => cases r; exact .base .non
  | bool b => cases r; exact .base (.bl b)
  | int b => cases r; exact .base (.int b)
  | str b => cases r; exact .base (.str b)
  | list b => obtain ⟨a, xs, rfl, h, _⟩ := r; exact .base (.lst h)
  | tuple b => obtain ⟨a, xs, rfl, h, _⟩ := r; exact .base (.tup (s _ _ h))
  | dict b => obtain ⟨a, xs, rfl, h, _⟩ := r; exact .base (.dK h)
theorem ve_isi (T : Ty) {x : Str} (ha : VE X ρ W a fa) (hm : X.mg "isinstance" = none) (hmx : X.mg x = none) (hv : bootBuiltins x = some (.type T.nm)) (hg : Gl X "isinstance" := by rfl) (hgx : Gl X x := by rfl) (hn : x ≠ "__name__" := by decide) (hdb : (x == ("__debug__" : Str)) = false := by decide)
    (he : starEach (a :: [.Name x p2]) X.env = (false, eval a X.env) :: starEach [.Name x p2] X.env := by rfl) (he2 : starEach (.Name x p2 :: []) X.env = (false, eval (.Name x p2) X.env) :: starEach [] X.env := by rfl) (hpl : (backTo pos (starEach [.Name x p2] X.env)).any (·.1) = false := by rfl) :
    VE X ρ W (.Call (.Name "isinstance" p) [a, .Name x p2] [] pos) (fIsi T fa) := by
  obtain ⟨t, pa, s⟩ := ha
  refine ⟨_, pe_callB call_isi hg hm PyProof.Rows.boot_isinstance (pa_cons pa (pa_cons (pe_bltn hgx hmx hv (v := .ty T.nm) rfl hn hdb) pa_nil he2) he) (by decide) (by decide) he hpl, fun π e σ w Q m h => ?_⟩
  refine s π e σ w _ m (h.bnd fun o1 e1 v1 w1 m1 f1 k1 h1 => ?_)
  have h3 := h1.from f1
  cases q1 : res e1 o1 with
  | none => rw [q1] at h3; exact h3.elim
  | some d1 =>
    rw [q1] at h3
    simp only [Option.bind_some] at h3
    exact ⟨v1, .ty T.nm, .type (tyN d1), .type T.nm, isD T d1, rfl, .ty _, (res_sound m1 k1 q1).ty m1.sub, kit_ty (kit_is T d1), h3 _ w1 m1 (.refl _) (.fr (.bl _))⟩
def bOf (e : Env) : O → Option B
  | .s i => at? e i
  | .b b => some b
theorem bOf_sound {o : O} {v : V} {b : B} (m : Mt C π e σ w) (h : OOk C σ w0 w o v) (hr : bOf e o = some b) : ∃ fp, BOk C w.G w.H b v fp := by
  cases o with
  | s i =>
    have hv : σ[i]? = some (some v) := h
    obtain ⟨u, h1, h2⟩ := m.bok i b hr
    rw [hv] at h1
    cases h1
    exact ⟨_, h2⟩
  | b b' =>
    cases hr
    obtain ⟨fp, h1, h2⟩ := h
    exact ⟨fp, h1⟩
def fScLen (fa : FE) : FE := fun e => bnd (fa e) fun o e1 => match bOf e1 o with
  | some (.sc ns) => okD (.int ns.length) e1
  | _ => none
def fScIx (fa fb : FE) : FE := fun e => bnd (fa e) fun o e1 => bnd (fb e1) fun o2 e2 => match bOf e2 o, res e2 o2 with
  | some (.sc ns), some (.int i) => (atI ns i).bind fun n => okD (.int n) e2
  | _, _ => none
theorem ve_scLen (ha : VE X ρ W a fa) (hm : X.mg "len" = none) (hv : bootBuiltins "len" = some (.builtin "len")) (hg : Gl X "len" := by rfl)
    (he : starEach (a :: []) X.env = (false, eval a X.env) :: starEach [] X.env := by rfl) (hpl : (backTo pos (starEach [] X.env)).any (·.1) = false := by rfl) : VE X ρ W (.Call (.Name "len" p) [a] [] pos) (fScLen fa) := by
  obtain ⟨t, pa, s⟩ := ha
  refine ⟨_, pe_callB call_len_seq hg hm hv (pa_cons pa pa_nil he) (by decide) (by decide) he hpl, fun π e σ w Q m h => ?_⟩
  refine s π e σ w _ m (h.bnd fun o1 e1 v1 w1 m1 f1 k1 h1 => ?_)
  have h3 := h1.from f1
  split at h3
  · rename_i ns q1
    obtain ⟨fp, ⟨p, rfl, hq⟩, _⟩ := bOf_sound m1 k1 q1
    refine ⟨p, _, rfl, .inl (m1.sub.seq hq), ?_⟩
    rw [List.length_map]
    exact h3 _ w1 m1 (.refl _) (.fr (.int _))
  · exact h3.elim
theorem at_ints {ns : List Int} {i n : Int} (h : atI ns i = some n) : atI (ns.map V.int) i = some (.int n) := by
  unfold atI at h ⊢
  rw [List.length_map]
  cases q : ixN ns.length i with
  | none => rw [q] at h; cases h
  | some j =>
    rw [q] at h
    simp only [Option.bind_some] at h ⊢
    rw [List.getElem?_map, h]
    rfl
theorem ve_scIx (ha : VE X ρ W a fa) (hb : VE X ρ W b fb) (hs : PlainIx b := by exact fun _ _ => rfl) : VE X ρ W (.Subscript a b pos) (fScIx fa fb) := by
  obtain ⟨t, p, s⟩ := ha
  obtain ⟨t2, p2, s2⟩ := hb
  refine ⟨_, pe_ix ix_list p p2 hs, fun π e σ w Q m h => ?_⟩
  refine s π e σ w _ m (h.bnd fun o1 e1 v1 w1 m1 f1 k1 h1 => ?_)
  refine s2 π e1 σ w1 _ m1 ((h1.from f1).bnd fun o2 e2 v2 w2 m2 f2 k2 h2 => ?_)
  have h3 := h2.from f2
  split at h3
  · rename_i ns i q1 q2
    obtain ⟨fp, ⟨p, rfl, hq⟩, _⟩ := bOf_sound m2 (k1.step f2) q1
    have r2 := res_sound m2 k2 q2
    cases r2
    cases q3 : atI ns i with
    | none => rw [q3] at h3; exact h3.elim
    | some n =>
      rw [q3] at h3
      simp only [Option.bind_some] at h3
      exact ⟨p, _, i, .int n, rfl, rfl, m2.sub.seq hq, at_ints q3, h3 _ w2 m2 (.refl _) (.fr (.int _))⟩
  · exact h3.elim
end
end VL
set_option maxRecDepth 100000
namespace VL
open PySem L2
theorem b_len : bootBuiltins "len" = some (.builtin "len") := by decide +kernel
theorem b_max : bootBuiltins "max" = some (.builtin "max") := by decide +kernel
theorem b_min : bootBuiltins "min" = some (.builtin "min") := by decide +kernel
theorem b_sorted : bootBuiltins "sorted" = some (.builtin "sorted") := by decide +kernel
theorem b_int : bootBuiltins "int" = some (.type "int") := by decide +kernel
theorem b_bool : bootBuiltins "bool" = some (.type "bool") := by decide +kernel
theorem b_str : bootBuiltins "str" = some (.type "str") := by decide +kernel
theorem b_list : bootBuiltins "list" = some (.type "list") := by decide +kernel
section
variable {X : Cx} {ρ : Nat → Res} {W : WX} {pos : Pos}
/-- a number of the module -/
theorem ve_gint {x : Str} {i : Int} (hm : ∃ t, X.mg x = some (.int i t)) (hg : Gl X x := by rfl) (hd : (x == ("__debug__" : Str)) = false := by decide) : VE X ρ W (.Name x pos) (fC (.int i)) := by
  obtain ⟨t, h⟩ := hm
  exact ve_glob h (v := .int i) ⟨t, rfl⟩ (fun _ => .int i) hg hd
end
section
variable {P : Program} {w : World} {K : PySem.W.Frag} {mg : Str → Option Value} {base : Heap} {ρ : Nat → Res}
/-- the module's def x computes F; the parameters at ms are changed -/
structure CalK (P : Program) (w : World) (K : PySem.W.Frag) (mg : Str → Option Value) (base : Heap) (ρ : Nat → Res) (x : Str) (n : Nat) (ms : List Nat) (F : Fn) (k : Nat) : Prop where
  ex : ∃ f fd ps, FnG P w K mg base k f fd ps (spV ⟨K, mg, ρ⟩ n ms F) ∧ mg x = some (.ref f) ∧ PySem.W.keepIn K (.ref f) = true ∧ Binds K fd ps []
theorem CalK.c {X : Cx} {x : Str} {n : Nat} {ms : List Nat} {F : Fn} {k : Nat} (c : CalK X.prog X.w X.K X.mg X.base ρ x n ms F k) : Cal X ρ x n ms F k := ⟨c.ex⟩
theorem cal_mk {x qual : Str} {params : Arguments} {body : List Stmt} {scope : Scope} {f : Addr} {fd : FuncData} {N ps : List Str} {k : Nat} {g : FS} (ms : List Nat) (F : FunD K x qual params body scope [] [] f fd) (gm : mg x = some (.ref f)) (S : FnScope N ps scope) (hpn : ps.length ≤ N.length)
    (hb : ∀ (kV doc pm : Value) (an : Option Addr) (cdv ct : Value) (us : List Value), us.length = ps.length → bindArgs (PySem.W.fnOf x qual params body scope .none kV doc pm an cdv ct) ⟨us, []⟩ = pure (ps.zip us))
    (hbody : ∀ (cdv : Value) (A : Around) (outer : List PySem.Env) (s : Shared) (H : Hp) (E : XK), Room k (A.deeper (PyProof.Rows.envOfC qual scope s.heap.objs.size f cdv)) →
      Vx (cxOf (L2.CX P w) P w K mg base N qual scope f cdv A outer s H E) (fun cls d _ H => E cls d H) → VSs (cxOf (L2.CX P w) P w K mg base N qual scope f cdv A outer s H E) ρ (fun cls d _ H => E cls d H) ms body g) (hk : 1 ≤ k) :
    CalK P w K mg base ρ x ps.length ms (runF g N.length) (k + 1) := ⟨f, fd, ps, fn_okV ms F S hpn hbody hk, gm, F.kp, F.bindsN hb⟩
theorem xc_ok {h : Heap} {x : Str} (KX : K.In h) (G : h.Ns mainGlobals mg) (c : (He.Fa.exc x).ok K = true) (g : (He.Fa.glo x).ok K = true) : XC K mg x := by
  obtain ⟨h1, h2, h3, h4⟩ := He.exc_ok c
  exact ⟨_, He.glo_ok KX G g, h1, h2, h3, h4⟩
/-- nothing -/
def R0 : Res := ⟨fun _ _ _ _ _ _ => False, fun h _ _ => h.elim, fun h => h.elim⟩
theorem fn_mkV {x qual : Str} {params : Arguments} {body : List Stmt} {scope : Scope} {f : Addr} {fd : FuncData} {N ps : List Str} {k : Nat} {g : FS} (ms : List Nat) (F : FunD K x qual params body scope [] [] f fd) (S : FnScope N ps scope) (hpn : ps.length ≤ N.length)
    (hbody : ∀ (cdv : Value) (A : Around) (outer : List PySem.Env) (s : Shared) (H : Hp) (E : XK), Room k (A.deeper (PyProof.Rows.envOfC qual scope s.heap.objs.size f cdv)) →
      Vx (cxOf (L2.CX P w) P w K mg base N qual scope f cdv A outer s H E) (fun cls d _ H => E cls d H) → VSs (cxOf (L2.CX P w) P w K mg base N qual scope f cdv A outer s H E) ρ (fun cls d _ H => E cls d H) ms body g) (hk : 1 ≤ k) :
    FnG P w K mg base (k + 1) f fd ps (spV ⟨K, mg, ρ⟩ ps.length ms (runF g N.length)) := fn_okV ms F S hpn hbody hk
/-- the law's answer -/
theorem law_end {F : Fn} {a : Addr} {ns : List Int} {H : Hp} (hS : SqL K H a (ns.map V.int)) (hF : ∃ e, F [.sc ns] = some (.ret (.fr (.bool true)) e)) : spV ⟨K, mg, ρ⟩ 1 [] F [.ref a] H (fun v _ => v = .bl true) (fun _ _ _ => False) := by
  obtain ⟨e, hF⟩ := hF
  refine ⟨rfl, [.sc ns], ⟨H, H, fun _ _ => False⟩, rfl, ⟨rfl, Same.refl _, fun i b q => ?_, fun i q a z => z, fun i j a z _ => z.elim, fun p h => by cases h⟩, ?_⟩
  · match i, q with
    | 0, q =>
      cases q
      exact ⟨_, rfl, ⟨a, rfl, hS⟩, fun _ z => z⟩
    | i + 1, q => exact absurd q (by unfold at?; simp)
  · unfold PostF
    rw [hF]
    intro v w' m f k
    obtain ⟨fp, k1, k2⟩ := k
    cases k1.1
    rfl
end
end VL
set_option maxRecDepth 100000
namespace VL
open PySem L2
abbrev Pl := Int × Int × Int
def encP (p : Pl) : PyData := .list [.int p.1, .int p.2.1, .int p.2.2]
def encD (ps : List Pl) (i : Int) : PyData := .list [.list (ps.map encP), .int i]
def decP : PyData → Option Pl
  | .list [.int a, .int b, .int c] => some (a, b, c)
  | _ => none
def decPs : List PyData → Option (List Pl)
  | [] => some []
  | d :: ds => (decP d).bind fun p => (decPs ds).map (p :: ·)
def decD : PyData → Option (List Pl × Int)
  | .list [.list ds, .int i] => (decPs ds).map fun ps => (ps, i)
  | _ => none
theorem decPs_enc : ∀ ps : List Pl, decPs (ps.map encP) = some ps
  | [] => rfl
  | p :: ps => by
    show ((decPs (ps.map encP)).map (p :: ·)) = some (p :: ps)
    rw [decPs_enc ps]
    rfl
theorem decD_enc (ps : List Pl) (i : Int) : decD (encD ps i) = some (ps, i) := by
  show (decPs (ps.map encP)).map (fun ps => (ps, i)) = some (ps, i)
  rw [decPs_enc]
  rfl
def v3 (p : Pl) : List V := [.int p.1, .int p.2.1, .int p.2.2]
/-- what is drawn from a three, and the three behind it -/
def drawP (p : Pl) (many : Int) : Int × Pl :=
  if p.2.1 = 1 ∧ 0 < p.1 then (p.1 % many, (p.1 / many, p.2.1, p.2.2))
  else
    let x := (p.1 % 99999999977 + 700001 * (p.2.2 + 1)) % 99999999947
    let y := x * x % 99999999821
    let z := y * (y + 19) % 9999999967
    (z / 13 % many, (p.1, p.2.1, p.2.2 + 1))
def drawOk (ps : List Pl) (i many : Int) : Bool := decide (0 < ps.length) && decide (0 ≤ i) && decide (0 < many) && decide (many.natAbs < 2 ^ 64)
theorem drawOk_iff {ps : List Pl} {i many : Int} : drawOk ps i many = true ↔ (0 < ps.length ∧ 0 ≤ i ∧ 0 < many ∧ many < 2 ^ 64) := by
  unfold drawOk
  rw [Bool.and_eq_true, Bool.and_eq_true, Bool.and_eq_true, decide_eq_true_eq, decide_eq_true_eq, decide_eq_true_eq, decide_eq_true_eq]
  exact ⟨fun h => ⟨h.1.1.1, h.1.1.2, h.1.2, by omega⟩, fun h => ⟨⟨⟨h.1, h.2.1⟩, h.2.2.1⟩, by omega⟩⟩
/-- the place of the three that is drawn from -/
def drawJ (ps : List Pl) (i : Int) : Nat := (i % (ps.length : Int)).toNat
def drawF : Fn := fun bs => match bs with
  | [.rs 0 d, .fr (.int many)] => match decD d with
    | some (ps, i) => if drawOk ps i many = true then (ps[drawJ ps i]?).bind fun p => some (.ret (.fr (.int (drawP p many).1)) [some (.rs 0 (encD (ps.set (drawJ ps i) (drawP p many).2) (i + 1)))]) else none
    | none => none
  | _ => none
theorem drawP_nonneg {p : Pl} {many : Int} (h : 0 < many) : 0 ≤ (drawP p many).1 ∧ (drawP p many).1 < many := by
  unfold drawP
  split
  · exact ⟨Int.emod_nonneg _ (by omega), Int.emod_lt_of_pos _ h⟩
  · exact ⟨Int.emod_nonneg _ (by omega), Int.emod_lt_of_pos _ h⟩
end VL
set_option maxRecDepth 100000
namespace VL
open PySem L2
def sNewP (i : Nat) : FS := fun e => some (.nx (e.set i (some (.rs 1 (.list [])))))
def sAppP (i : Nat) (fd : FD) : FS := fun e => match at? e i with
  | some (.rs 1 _) => bndS (fd e) fun ds e1 => match ds, at? e1 i with
    | [.int a, .int b, .int c], some (.rs 1 (.list l)) => if l.length < big then some (.nx (e1.set i (some (.rs 1 (.list (l ++ [encP (a, b, c)])))))) else none
    | _, _ => none
  | _ => none
def fDeck (i : Nat) : FE := fun e => match at? e i with
  | some (.rs 1 (.list l)) => some (.ok (.b (.rs 0 (.list [.list l, .int 0]))) (e.set i none))
  | _ => none
end VL
set_option maxRecDepth 100000
namespace VL
open PySem L2
def rgOk (i j : Int) : Bool := decide (i.natAbs < 2 ^ 62) && decide (j.natAbs < 2 ^ 62) && decide ((j - i).toNat ≤ big)
def fListRg1 (fa : FE) : FE := fun e => bnd (fa e) fun o e1 => match res e1 o with
  | some (.int j) => if rgOk 0 j = true then some (.ok (.b (.ow (rngN 0 j.toNat))) e1) else none
  | _ => none
section
variable {X : Cx} {ρ : Nat → Res} {W : WX} {a b : Expr} {pos p p2 p3 : Pos} {fa fb : FE}
theorem rp_rng {K : PySem.W.Frag} {G : Hp} {lo : Int} {n : Nat} : RpAll K G ((List.range n).map fun i => V.int (lo + (i : Nat))) (rngN lo n) := by
  unfold rngN
  generalize List.range n = l
  induction l with
  | nil => exact .nil
  | cons x l ih => exact .cons (.int _) ih
theorem rg_ok {i j : Int} (h : rgOk i j = true) : RgOk i j := by
  unfold rgOk at h
  rw [Bool.and_eq_true, Bool.and_eq_true, decide_eq_true_eq, decide_eq_true_eq, decide_eq_true_eq] at h
  exact ⟨by omega, by omega, by omega, by omega, Nat.le_trans h.2 (by decide)⟩
theorem ve_listRg1 (hc : X.calm = true) (hm : X.mg "list" = none) (hr : X.mg "range" = none) (ha : VE X ρ W a fa) (hg : Gl X "list" := by rfl) (hg2 : Gl X "range" := by rfl) (na : starEach [a] X.env = (false, eval a X.env) :: starEach [] X.env := by rfl)
    (na2 : starEach [.Call (.Name "range" p2) [a] [] p3] X.env = (false, eval (.Call (.Name "range" p2) [a] [] p3) X.env) :: starEach [] X.env := by rfl) : VE X ρ W (.Call (.Name "list" p) [.Call (.Name "range" p2) [a] [] p3] [] pos) (fListRg1 fa) := by
  obtain ⟨t, p, s⟩ := ha
  refine ⟨_, pe_listRg hc hg hm (prg_1 hg2 hr p na) na2, fun π e σ w Q m h => ?_⟩
  refine s π e σ w _ m (h.bnd fun o1 e1 v1 w1 m1 f1 k1 h1 => ?_)
  have h3 := h1.from f1
  split at h3
  · rename_i j q1
    have r := res_sound m1 k1 q1
    cases r
    split at h3
    · rename_i hok
      refine ⟨j, rfl, rg_ok hok, fun q hq => ?_⟩
      obtain ⟨m2, f2, k2⟩ := mk_lst (es := rngN 0 j.toNat) (zs := rgV 0 j) m1 hq (by unfold rgV; rw [Int.sub_zero]; exact rp_rng)
      exact h3 _ _ m2 f2 (k2.base f1)
    · exact h3.elim
  · exact h3.elim
end
end VL
set_option maxRecDepth 100000
namespace VL
open PySem L2
end VL
set_option maxRecDepth 100000
namespace VL
open PySem L2
end VL
set_option maxRecDepth 100000
namespace VL
open PySem L2
end VL
set_option maxRecDepth 100000
namespace VL
open PySem L2
def keq : PyData → PyData → Bool
  | .int i, .int j => decide (i = j)
  | .str a, .str b => decide (a = b)
  | _, _ => false
def isK : PyData → Bool
  | .int _ => true
  | .str _ => true
  | _ => false
theorem keq_kP (a b : Key) : keq (kP a) (kP b) = decide (a = b) := by
  cases a <;> cases b <;> simp [kP, keq]
abbrev DKv := List (PyData × PyData)
def putD (ds : DKv) (k v : PyData) : DKv := if (ds.any fun p => keq p.1 k) = true then ds.map (fun p => if keq p.1 k = true then (p.1, v) else p) else ds ++ [(k, v)]
/-- a dict's entries and their data -/
inductive RpD (K : PySem.W.Frag) (G : Hp) : List (Key × V) → DKv → Prop
  | nil : RpD K G [] []
  | cons {k : Key} {v : V} {d : PyData} {ks : List (Key × V)} {ds : DKv} : Rp K G v d → RpD K G ks ds → RpD K G ((k, v) :: ks) ((kP k, d) :: ds)
section
variable {K : PySem.W.Frag} {G : Hp}
theorem RpD.keys : ∀ {ks : List (Key × V)} {ds : DKv}, RpD K G ks ds → ks.map (fun q => kP q.1) = ds.map (·.1)
  | _, _, .nil => rfl
  | _, _, .cons _ t => by rw [List.map_cons, List.map_cons, t.keys]
theorem RpD.vals : ∀ {ks : List (Key × V)} {ds : DKv}, RpD K G ks ds → RpAll K G (ks.map (·.2)) (ds.map (·.2))
  | _, _, .nil => .nil
  | _, _, .cons r t => .cons r t.vals
theorem RpD.length : ∀ {ks : List (Key × V)} {ds : DKv}, RpD K G ks ds → ks.length = ds.length
  | _, _, .nil => rfl
  | _, _, .cons _ t => by rw [List.length_cons, List.length_cons, t.length]
theorem RpD.mono {G' : Hp} (e : Same G G') : ∀ {ks : List (Key × V)} {ds : DKv}, RpD K G ks ds → RpD K G' ks ds
  | _, _, .nil => .nil
  | _, _, .cons r t => .cons (r.mono e) (t.mono e)
theorem RpD.append : ∀ {ks ls : List (Key × V)} {ds es : DKv}, RpD K G ks ds → RpD K G ls es → RpD K G (ks ++ ls) (ds ++ es)
  | _, _, _, _, .nil, t => t
  | _, _, _, _, .cons r t, u => .cons r (t.append u)
theorem RpD.any : ∀ {ks : List (Key × V)} {ds : DKv}, RpD K G ks ds → ∀ k : Key, (ks.any fun p => decide (p.1 = k)) = ds.any fun p => keq p.1 (kP k)
  | _, _, .nil, k => rfl
  | _, _, .cons (k := a) r t, k => by rw [List.any_cons, List.any_cons, keq_kP, t.any k]
theorem RpD.over {v : V} {d : PyData} (k : Key) (r : Rp K G v d) : ∀ {ks : List (Key × V)} {ds : DKv}, RpD K G ks ds → RpD K G (ks.map (fun kv => if kv.1 = k then (kv.1, v) else kv)) (ds.map fun p => if keq p.1 (kP k) = true then (p.1, d) else p)
  | _, _, .nil => .nil
  | _, _, .cons (k := a) r1 t => by
    rw [List.map_cons, List.map_cons, keq_kP]
    by_cases q : a = k
    · rw [if_pos q, if_pos (decide_eq_true q)]
      exact .cons r (RpD.over k r t)
    · rw [if_neg q, if_neg (by rw [decide_eq_false q]; decide)]
      exact .cons r1 (RpD.over k r t)
theorem RpD.put {ks : List (Key × V)} {ds : DKv} {v : V} {d : PyData} (h : RpD K G ks ds) (k : Key) (r : Rp K G v d) : RpD K G (putK ks k v) (putD ds (kP k) d) := by
  unfold putK putD
  rw [h.any k]
  split
  · exact h.over k r
  · exact h.append (.cons r .nil)
end
theorem mk_dict {C : Cc} {π : List (Nat × V)} {e : Env} {σ : St} {w : WS} {p : Addr} {ks : List (Key × V)} {es : DKv} (m : Mt C π e σ w) (hp : w.H p = none) (r : RpD C.K w.G ks es) :
    Mt C π e σ (w.new p (.dK ks)) ∧ Frm w (w.new p (.dK ks)) ∧ OOk C σ w (w.new p (.dK ks)) (.b (.od es)) (.ref p) := mk_dic m hp r.keys r.vals
section
variable {X : Cx} {ρ : Nat → Res} {W : WX} {pn : List Nat} {a b c o : Expr} {es : List Expr} {pos p p2 apos cpos : Pos} {fa fb fc fx fv : FE} {fd : FD}
def fDNew : FE := fun e => some (.ok (.b (.od [])) e)
theorem ve_dnew : VE X ρ W (.Dict [] [] pos) fDNew := by
  refine ⟨_, pe_dnewK, fun π e σ w Q m h => fun q hq => ?_⟩
  obtain ⟨m2, f2, k2⟩ := mk_dict (ks := []) (es := []) m hq .nil
  exact h _ _ m2 f2 k2
end
end VL
set_option maxRecDepth 100000
namespace VL
open PySem L2
/-- an unowned thing changes -/
theorem Mt.over {C : Cc} {π : List (Nat × V)} {e : Env} {σ : St} {w : WS} {D : Addr} {o' : HO} (m : Mt C π e σ w) (hG : w.G D = none) (hn : ∀ i, ¬ w.fp i D) : Mt C π e σ { w with H := upd w.H D o' } := by
  refine ⟨m.len, fun a u qa => ?_, fun j b qb => ?_, m.non, m.dis, m.pin⟩
  · show upd w.H D o' a = some u
    rw [upd_ne (ne_of_none qa hG)]
    exact m.sub a u qa
  · obtain ⟨v, b1, b2⟩ := m.bok j b qb
    exact ⟨v, b1, b2.mono (Same.refl _) fun a ha => ⟨upd_ne fun z => hn j (by rw [← z]; exact ha), rfl⟩⟩
theorem Frm.over {w w2 : WS} {D : Addr} {o' : HO} (f : Frm w w2) (hD : w.H D = none) : Frm w { w2 with H := upd w2.H D o' } := by
  refine ⟨f.g, fun a o ha hna => ?_, fun a ha => ?_⟩
  · obtain ⟨b1, b2, b3⟩ := f.k a o ha hna
    refine ⟨?_, b2, b3⟩
    show upd w2.H D _ a = some o
    rw [upd_ne (ne_of_none ha hD)]
    exact b1
  · by_cases z : a = D
    · rw [z]; exact hD
    · have ha' : upd w2.H D o' a = none := ha
      rw [upd_ne z] at ha'
      exact f.t a ha'
end VL
set_option maxRecDepth 100000
namespace VL
open PySem L2 PySem.Spec PyProof.Rows
end VL
set_option maxRecDepth 100000
namespace VL
open PySem L2 PySem.Spec PyProof.Rows
end VL
set_option maxRecDepth 100000
namespace VL
open PySem L2 PySem.Spec PyProof.Rows
end VL
set_option maxRecDepth 100000
namespace VL
open PySem L2 PySem.Spec PyProof.Rows
open PySem.W (AllAlike Sortable EachIs dataKind sortVals sortingHeap copyHeap alike alikeAll)
theorem asInts_some : ∀ {es : List PyData} {ns : List Int}, asInts es = some ns → es = ns.map .int := fun {es ns} h => by
  induction es generalizing ns with
  | nil => cases h; rfl
  | cons e es ih =>
    cases e with
    | int i =>
      have h' : ∃ a, asInts es = some a ∧ i :: a = ns := by simpa [asInts] using h
      obtain ⟨a, e1, e2⟩ := h'
      subst e2
      rw [ih e1]
      rfl
    | _ => simp [asInts] at h
end VL
set_option maxRecDepth 100000
namespace VW
open PySem L2 PyProof.Rows
/-- the first n places from x on -/
def trip (m : Nat) : Nat → Nat → List Nat
  | 0, _ => []
  | n + 1, x => x :: trip m n ((x * 5 + 1) % (m + 1))
theorem trip_at (m : Nat) : ∀ (n k a : Nat), k < n → (trip m n (lcgN m a))[k]? = some (lcgN m (a + k))
  | 0, _, _, h => absurd h (Nat.not_lt_zero _)
  | n + 1, 0, a, _ => rfl
  | n + 1, k + 1, a, h => by
    show (trip m n (lcgN m (a + 1)))[k]? = _
    rw [trip_at m n k (a + 1) (by omega), show a + 1 + k = a + (k + 1) by omega]
def whole511 : Bool := (List.range 512).all fun j => (trip 511 512 0).contains j
theorem whole511_ok : whole511 = true := by decide +kernel
theorem home511 : lcgN 511 512 = 0 := by decide +kernel
/-- from each place each other is met within one round -/
def Meets (m : Nat) : Prop := ∀ i j, i ≤ m → j ≤ m → ∃ k, k ≤ m ∧ lcgI m i k = j
theorem meets511 : Meets 511 := by
  have at_ : ∀ j, j ≤ 511 → ∃ b, b ≤ 511 ∧ lcgN 511 b = j := fun j hj => by
    have h1 := List.all_eq_true.mp whole511_ok j (List.mem_range.mpr (by omega))
    have h2 : j ∈ trip 511 512 0 := by simpa using h1
    obtain ⟨b, hb, e⟩ := List.getElem_of_mem h2
    have hl : ∀ n x, (trip 511 n x).length = n := fun n => by
      induction n with
      | zero => exact fun _ => rfl
      | succ n ih => exact fun x => by rw [trip, List.length_cons, ih]
    rw [hl] at hb
    have h3 := trip_at 511 512 b 0 hb
    have h4 : (trip 511 512 0)[b]? = some j := by rw [List.getElem?_eq_getElem (by rw [hl]; exact hb), e]
    have h5 : trip 511 512 (lcgN 511 0) = trip 511 512 0 := rfl
    rw [h5, h4, Nat.zero_add] at h3
    exact ⟨b, by omega, (Option.some.inj h3).symm⟩
  have round : ∀ k, lcgN 511 (512 + k) = lcgN 511 k := fun k => by
    induction k with
    | zero => exact home511
    | succ k ih =>
      show (lcgN 511 (512 + k) * 5 + 1) % 512 = (lcgN 511 k * 5 + 1) % 512
      rw [ih]
  intro i j hi hj
  obtain ⟨a, ha, rfl⟩ := at_ i hi
  obtain ⟨b, hb, rfl⟩ := at_ j hj
  by_cases h : a ≤ b
  · exact ⟨b - a, by omega, by rw [lcgN_add, show a + (b - a) = b by omega]⟩
  · exact ⟨512 + b - a, by omega, by rw [lcgN_add, show a + (512 + b - a) = 512 + b by omega, round]⟩
/-- the masks that come -/
structure Mk (m : Nat) : Prop where
  four : m = 7 ∨ m = 31 ∨ m = 127 ∨ m = 511
  odd : m % 2 = 1
  le : m ≤ 511
  meets : Meets m
theorem mk_kit {m : Nat} (h : MaskOk m) : Mk m := ⟨by rcases h with h | h | h <;> omega, mask_odd h, by rcases h with h | h | h <;> omega, fun i j hi hj => lcgI_all h hi hj⟩
theorem mk31 : Mk 31 := mk_kit (.inr (.inl rfl))
theorem mk127 : Mk 127 := mk_kit (.inr (.inr rfl))
theorem mk511 : Mk 511 := ⟨.inr (.inr (.inr rfl)), rfl, Nat.le_refl _, meets511⟩
section
variable {m : Nat} {t : SetTable} {hs : List Int} {h : Int} {K : Nat}
theorem in_table : way m h K ≤ m := by
  have h1 : SetTable.bits h % (m + 1) ≤ m := Nat.le_of_lt_succ (Nat.mod_lt _ (Nat.succ_pos _))
  obtain ⟨r1, r2, _⟩ := runEnd_bd h1
  have := nth_in (m := m) K (runAt m (SetTable.bits h % (m + 1)) (SetTable.bits h)) (by
    show SetTable.bits h % (m + 1) + (SetTable.runEnd m (SetTable.bits h % (m + 1)) - SetTable.bits h % (m + 1)) ≤ m
    omega)
  exact Nat.le_trans (Nat.le_add_right _ _) this
/-- a run that begins at a place -/
theorem begins (W : Mk m) (h : Int) {j : Nat} (hj : j ≤ m) : ∃ n, n ≤ m + 12 ∧ runI m (SetTable.bits h) n = j := by
  obtain ⟨k, hk, e⟩ := W.meets _ _ (runI_le m (SetTable.bits h) 12) hj
  exact ⟨12 + k, by omega, (runI_tail (bits_lt h) k).trans e⟩
/-- the first step that has what some place has -/
theorem least_step {p : Nat → Prop} (W : Mk m) (h : Int) {j : Nat} (hj : j ≤ m) (hp : p j) : ∃ K, K < 10 * SetTable.turns m ∧ p (way m h K) ∧ ∀ k, k < K → ¬ p (way m h k) := by
  obtain ⟨n, hn, e⟩ := begins W h hj
  obtain ⟨k, hk, e2⟩ := run_nth m (SetTable.bits h) n
  have e3 : way m h k = j := by
    show (nth m (runAt m (SetTable.bits h % (m + 1)) (SetTable.bits h)) k).j = j
    rw [e2]
    exact e
  obtain ⟨K, h1, h2, h3⟩ := st_least (p := fun k => p (way m h k)) k (show p (way m h k) by rw [e3]; exact hp)
  exact ⟨K, Nat.lt_of_le_of_lt h1 (by unfold SetTable.turns; omega), h2, h3⟩
/-- what has a hash lies on its way with no gap before it -/
structure Fnd (t : SetTable) (hs : List Int) : Prop where
  msk : Mk t.mask
  up : Ris t.place.toList
  none : t.dummies = #[]
  len : t.place.toList.length = hs.length
  inn : ∀ x ∈ t.place.toList, x ≤ t.mask
  way : ∀ (i : Nat) (h : Int) (j : Nat), hs[i]? = some h → t.place.toList[i]? = some j → ∃ k, way t.mask h k = j ∧ ∀ k', k' < k → L2.way t.mask h k' ∈ t.place.toList
theorem Fnd.gap (T : Fnd t hs) (hl : hs.length ≤ t.mask) (h : Int) : ∃ K, K < 10 * SetTable.turns t.mask ∧ L2.way t.mask h K ∉ t.place.toList ∧ ∀ k, k < K → L2.way t.mask h k ∈ t.place.toList := by
  obtain ⟨j, hj, hn⟩ := st_missing t.place.toList (t.mask + 1) (by rw [T.len]; omega)
  obtain ⟨K, h1, h2, h3⟩ := least_step (p := fun x => x ∉ t.place.toList) T.msk h (Nat.le_of_lt_succ hj) hn
  exact ⟨K, h1, h2, fun k hk => Classical.not_not.mp (h3 k hk)⟩
/-- what has the hash lies before the gap -/
theorem Fnd.ahead (T : Fnd t hs) (hK : L2.way t.mask h K ∉ t.place.toList) {i j : Nat} (hi : hs[i]? = some h) (hj : t.place.toList[i]? = some j) : ∃ k, k < K ∧ L2.way t.mask h k = j := by
  obtain ⟨k, e, g⟩ := T.way i h j hi hj
  refine ⟨k, Nat.lt_of_not_le fun hle => ?_, e⟩
  rcases Nat.lt_or_eq_of_le hle with c | c
  · exact hK (g K c)
  · rw [c, e] at hK
    exact hK (List.mem_of_getElem? hj)
/-- one put into the gap -/
theorem Fnd.put (T : Fnd t hs) (hK : L2.way t.mask h K ∉ t.place.toList) (hb : ∀ k, k < K → L2.way t.mask h k ∈ t.place.toList) :
    ∃ p, t.put (L2.way t.mask h K) = ((t.put (L2.way t.mask h K)).1, p) ∧ p ≤ hs.length ∧ Fnd (t.put (L2.way t.mask h K)).1 (hs.take p ++ h :: hs.drop p) ∧
      (t.put (L2.way t.mask h K)).1.mask = t.mask ∧ (t.put (L2.way t.mask h K)).1.led = t.led ∧ (t.put (L2.way t.mask h K)).1.plain = t.plain ∧ (t.put (L2.way t.mask h K)).1.fill = hs.length + 1 := by
  have hin : L2.way t.mask h K ≤ t.mask := in_table
  generalize hj : L2.way t.mask h K = j at hK hin ⊢
  have hp : SetTable.below t.place j ≤ t.place.toList.length := by
    obtain ⟨c, _, _⟩ := below_cut T.up j
    rwa [Array.length_toList]
  have hp' : SetTable.below t.place j ≤ hs.length := T.len ▸ hp
  have e := put_place t j
  have sub : ∀ x, x ∈ t.place.toList → x ∈ (t.put j).1.place.toList := fun x hx => by rw [e]; exact mem_ins.mpr (.inr hx)
  have hlen : (t.put j).1.place.toList.length = hs.length + 1 := by rw [e, len_ins _ hp, T.len]
  refine ⟨SetTable.below t.place j, rfl, hp', ⟨T.msk, ris_insert T.up fun z => hK (List.mem_of_getElem? (by rw [Array.getElem?_toList]; exact z)), put_dm T.none j, by rw [hlen, len_ins _ hp'], fun x hx => ?_, fun i h' j' h1 h2 => ?_⟩, rfl, rfl, rfl, ?_⟩
  · rw [e] at hx
    rcases mem_ins.mp hx with rfl | hx
    · exact hin
    · exact T.inn x hx
  · show ∃ k, L2.way t.mask h' k = j' ∧ ∀ k', k' < k → L2.way t.mask h' k' ∈ (t.put j).1.place.toList
    rw [tins_get hs hp'] at h1
    rw [e, tins_get _ hp] at h2
    have old : ∀ i', hs[i']? = some h' → t.place.toList[i']? = some j' → ∃ k, L2.way t.mask h' k = j' ∧ ∀ k', k' < k → L2.way t.mask h' k' ∈ (t.put j).1.place.toList := fun i' a b => by
      obtain ⟨k, q, r⟩ := T.way i' h' j' a b
      exact ⟨k, q, fun k' hk' => sub _ (r k' hk')⟩
    split at h1
    · rename_i c
      rw [if_pos c] at h2
      exact old i h1 h2
    · rename_i c
      rw [if_neg c] at h2
      split at h1
      · rename_i d
        rw [if_pos d] at h2
        cases h1
        cases h2
        exact ⟨K, hj, fun k' hk' => sub _ (hb k' hk')⟩
      · rename_i d
        rw [if_neg d] at h2
        exact old (i - 1) h1 h2
  · show (t.put j).1.place.size + (t.put j).1.dummies.size = _
    rw [put_dm T.none j, ← Array.length_toList, hlen]
    rfl
/-- the first free place of the way is what is found -/
theorem free_at (W : Mk m) (owner : Array (Option Nat)) (h : Int) {j : Nat} (hj : j ≤ m) (hf : oAt owner j = none) :
    ∃ K, SetTable.layClean.free m owner (SetTable.turns m) (SetTable.bits h % (m + 1)) (SetTable.bits h) = some (way m h K) ∧ oAt owner (way m h K) = none ∧ ∀ k, k < K → oAt owner (way m h k) ≠ none := by
  obtain ⟨n, hn, e⟩ := begins W h hj
  have e1 : way m h (off m (SetTable.bits h % (m + 1)) (SetTable.bits h) n) = j := by
    show (nth m _ _).j = j
    rw [nth_off, itL_run]
    exact e
  obtain ⟨K, k1, k2, k3⟩ := st_least (p := fun k => oAt owner (way m h k) = none) _ (show oAt owner (way m h (off m (SetTable.bits h % (m + 1)) (SetTable.bits h) n)) = none by rw [e1]; exact hf)
  refine ⟨K, free_spec m owner _ n _ _ K (by unfold SetTable.turns; omega) k1 (fun k hk => ?_) (by rw [show oAt owner (nth m _ K).j = none from k2]; rfl), k2, k3⟩
  cases q : oAt owner (nth m (runAt m (SetTable.bits h % (m + 1)) (SetTable.bits h)) k).j with
  | none => exact absurd q (k3 k hk)
  | some _ => rfl
/-- one more laid -/
theorem lay_one (W : Mk m) {done : List Int} {owner : Array (Option Nat)} (O : Own m done owner) (hl : done.length ≤ m) (h : Int) :
    ∃ owner', stepF m (some (owner, done.length)) h = some (owner', (done ++ [h]).length) ∧ Own m (done ++ [h]) owner' := by
  obtain ⟨ps, p1, p2⟩ := O.ps
  obtain ⟨j0, h0, n0⟩ := st_missing ps (m + 1) (by omega)
  have f0 : oAt owner j0 = none := Classical.byContradiction fun z => n0 (p2 j0 (Nat.le_of_lt_succ h0) z)
  obtain ⟨K, e1, e2, e3⟩ := free_at W owner h (Nat.le_of_lt_succ h0) f0
  have hm : way m h K ≤ m := in_table
  generalize hj : way m h K = j at e1 e2 hm
  have new : oAt (owner.setIfInBounds j (some done.length)) j = some done.length := oAt_set_self _ (by rw [O.sz]; exact Nat.lt_succ_of_le hm)
  have old : ∀ i, oAt owner i ≠ none → i ≠ j ∧ oAt (owner.setIfInBounds j (some done.length)) i = oAt owner i := fun i hi => by
    have : i ≠ j := fun z => hi (z ▸ e2)
    exact ⟨this, oAt_set_ne _ this⟩
  refine ⟨_, (stepF_some e1).trans (by rw [List.length_append]; rfl), ⟨by rw [Array.size_setIfInBounds]; exact O.sz, fun i k hi q => ?_, fun k hk => ?_, j :: ps, by rw [List.length_cons, List.length_append, p1]; rfl, fun i hi q => ?_⟩⟩
  · by_cases c : i = j
    · subst c
      rw [new] at q
      cases q
      refine ⟨h, K, by rw [List.getElem?_append_right (Nat.le_refl _), Nat.sub_self]; rfl, hj, fun k' hk' => ?_⟩
      rw [(old _ (e3 k' hk')).2]
      exact e3 k' hk'
    · rw [oAt_set_ne _ c] at q
      obtain ⟨h', K', a1, a2, a3⟩ := O.at_ i k hi q
      refine ⟨h', K', by rw [List.getElem?_append_left (List.getElem?_eq_some_iff.mp a1).1]; exact a1, a2, fun k' hk' => ?_⟩
      rw [(old _ (a3 k' hk')).2]
      exact a3 k' hk'
  · rw [List.length_append] at hk
    by_cases c : k < done.length
    · obtain ⟨i, hi, q⟩ := O.all k c
      exact ⟨i, hi, (old i (by rw [q]; exact fun z => nomatch z)).2.trans q⟩
    · have : k = done.length := by
        have : k < done.length + 1 := hk
        omega
      exact ⟨j, hm, this ▸ new⟩
  · by_cases c : i = j
    · rw [c]; exact List.mem_cons_self
    · rw [oAt_set_ne _ c] at q
      exact List.mem_cons_of_mem _ (p2 i hi q)
theorem lay_all (W : Mk m) : ∀ (rest done : List Int) (owner : Array (Option Nat)), Own m done owner → done.length + rest.length ≤ m →
    ∃ owner', rest.foldl (stepF m) (some (owner, done.length)) = some (owner', (done ++ rest).length) ∧ Own m (done ++ rest) owner'
  | [], done, owner, O, _ => ⟨owner, by rw [List.append_nil]; rfl, by rw [List.append_nil]; exact O⟩
  | h :: rest, done, owner, O, hl => by
    have hl' : done.length + (rest.length + 1) ≤ m := hl
    obtain ⟨o1, e1, O1⟩ := lay_one W O (by omega) h
    obtain ⟨o2, e2, O2⟩ := lay_all W rest (done ++ [h]) o1 O1 (by rw [List.length_append]; show done.length + 1 + _ ≤ _; omega)
    have e : done ++ [h] ++ rest = done ++ h :: rest := by rw [List.append_assoc]; rfl
    rw [e] at e2 O2
    exact ⟨o2, by rw [List.foldl_cons, e1, e2], O2⟩
theorem lay_ok (W : Mk m) {hs : Array Int} (hn : hs.size ≤ m) : ∃ owner, SetTable.layClean m hs = some owner ∧ Own m hs.toList owner := by
  obtain ⟨owner, e, O⟩ := lay_all W hs.toList [] _ (Own.init m) (by rw [Array.length_toList]; show 0 + hs.size ≤ m; omega)
  rw [List.nil_append] at O
  refine ⟨owner, ?_, O⟩
  rw [layClean_eq, show (some (Array.replicate (m + 1) none, 0) : Option (Array (Option Nat) × Nat)) = some (Array.replicate (m + 1) none, ([] : List Int).length) from rfl, e]
  rfl
/-- the live places and who lies there -/
theorem live_len {owner : Array (Option Nat)} {hs : Array Int} (O : Own m hs.toList owner) : (liveOf m owner).length = hs.size ∧ Ris ((liveOf m owner).map (·.1)) ∧ ((liveOf m owner).map (·.2)).Perm (List.range hs.size) := by
  have up : Ris ((liveOf m owner).map (·.1)) := (ris_live (fun j => owner.getD j none) (List.range (m + 1)) (by unfold Ris; exact List.pairwise_lt_range)).1
  obtain ⟨ps, p1, p2⟩ := O.ps
  have all : ∀ k ∈ List.range hs.size, k ∈ (liveOf m owner).map (·.2) := fun k hk => by
    obtain ⟨j, b1, b2⟩ := O.all k (by rw [Array.length_toList]; exact List.mem_range.mp hk)
    exact List.mem_map.mpr ⟨(j, k), (mem_live O.sz).mpr ⟨b1, b2⟩, rfl⟩
  have nd : ((liveOf m owner).map (·.1)).Nodup := by
    unfold Ris at up
    exact List.Pairwise.imp (fun h => Nat.ne_of_lt h) up
  have le1 := nat_nodup_len ((liveOf m owner).map (·.1)) ps nd fun x hx => by
    obtain ⟨⟨y, k⟩, hq, rfl⟩ := List.mem_map.mp hx
    obtain ⟨b1, b2⟩ := (mem_live O.sz).mp hq
    exact p2 y b1 (by rw [b2]; exact fun z => nomatch z)
  have le2 := nat_nodup_len (List.range hs.size) _ List.nodup_range all
  rw [List.length_map, p1, Array.length_toList] at le1
  rw [List.length_map, List.length_range] at le2
  have e : (liveOf m owner).length = hs.size := Nat.le_antisymm le1 le2
  exact ⟨e, up, perm_range _ _ (by rw [List.length_map, e]) fun k hk => all k (List.mem_range.mpr hk)⟩
theorem relaid_fnd (t : SetTable) {hs : Array Int} {wanted : Nat} (hw : SetTable.sizeAbove wanted - 1 = m) (W : Mk m) (hn : hs.size ≤ m) :
    ∃ t' order, t.relaid hs wanted = some (t', order) ∧ order.toList.Perm (List.range hs.size) ∧ Fnd t' (order.toList.map fun i => hs.getD i 0) ∧ t'.mask = m ∧ t'.led = t.led ∧ t'.plain = t.plain := by
  obtain ⟨owner, e, O⟩ := lay_ok W hn
  obtain ⟨hl, up, pm⟩ := live_len O
  refine ⟨tabOf t m owner, ((liveOf m owner).map (·.2)).toArray, by rw [relaid_eq, hw, e]; rfl, pm, ⟨W, up, rfl, ?_, fun x hx => ?_, fun i h j h1 h2 => ?_⟩, rfl, rfl, rfl⟩
  · show ((liveOf m owner).map (·.1)).length = (((liveOf m owner).map (·.2)).map fun i => hs.getD i 0).length
    rw [List.length_map, List.length_map, List.length_map]
  · have hx' : x ∈ (liveOf m owner).map (·.1) := hx
    obtain ⟨⟨y, k⟩, hq, rfl⟩ := List.mem_map.mp hx'
    exact ((mem_live O.sz).mp hq).1
  · have h1' : (((liveOf m owner).map (·.2)).map fun i => hs.getD i 0)[i]? = some h := h1
    have h2' : ((liveOf m owner).map (·.1))[i]? = some j := h2
    rw [List.getElem?_map, List.getElem?_map] at h1'
    rw [List.getElem?_map] at h2'
    obtain ⟨⟨y, k⟩, hq⟩ : ∃ q, (liveOf m owner)[i]? = some q := by
      cases hq : (liveOf m owner)[i]? with
      | none => rw [hq] at h2'; cases h2'
      | some q => exact ⟨q, rfl⟩
    rw [hq] at h1' h2'
    have ej : y = j := Option.some.inj h2'
    have eh : hs.getD k 0 = h := Option.some.inj h1'
    subst ej
    obtain ⟨b1, b2⟩ := (mem_live O.sz).mp (List.mem_of_getElem? hq)
    obtain ⟨h0, K, a1, a2, a3⟩ := O.at_ y k b1 b2
    have e0 : h0 = h := by
      rw [← eh, Array.getD_eq_getD_getElem?, ← Array.getElem?_toList, a1]
      rfl
    subst e0
    refine ⟨K, a2, fun k' hk' => ?_⟩
    cases q : oAt owner (way m h0 k') with
    | none => exact absurd q (a3 k' hk')
    | some x => exact List.mem_map.mpr ⟨(way m h0 k', x), (mem_live O.sz).mpr ⟨in_table, q⟩, rfl⟩
end
end VW
set_option maxRecDepth 100000
namespace VW
open PySem L2 PySem.Spec PyProof.Rows
/-- the state of a search, so many steps on -/
abbrev pr (m : Nat) (h : Int) (c : Nat) : SetTable.Probe := nth m (runAt m (SetTable.bits h % (m + 1)) (SetTable.bits h)) c
theorem pr_on (m : Nat) (h : Int) (c q : Nat) : nth m (pr m h c) q = pr m h (c + q) := (nth_add m c _ q).symm
theorem pr_clean (m : Nat) (h : Int) : ∀ c, (pr m h c).dummy = none
  | 0 => rfl
  | c + 1 => by
    have ih := pr_clean m h c
    show (nth m _ (c + 1)).dummy = none
    rw [nth_succ]
    unfold adv
    split
    · exact ih
    · exact ih
section
variable {P : Program} {w : World} {A : Around} {E : Value → Shared → Prop} {s : Shared} {a : Addr} {L : List (Addr × List Int)} {es : Array (Int × Value)} {ep : Nat} {t : SetTable}
/-- the set at a has the tuples L, in the order of their places -/
structure Tups (P : Program) (w : World) (h : Heap) (a : Addr) (L : List (Addr × List Int)) (es : Array (Int × Value)) (ep : Nat) (t : SetTable) : Prop where
  obj : ∃ o, h.get? a = some o ∧ o.ExactSet ∧ o.data = .set es ep t
  row : es.toList = rowsOf P w L
  fnd : Fnd t (L.map fun p => thash P w p.2)
  once : (L.map (·.2)).Nodup
  each : ∀ p ∈ L, IsT P w h p.2 p.1
  plain : t.plain = true
  room : L.length * 5 < t.mask * 3
theorem Tups.size (R : Tups P w s.heap a L es ep t) : es.size = L.length := by
  rw [← Array.length_toList, R.row]
  unfold rowsOf
  rw [List.length_map]
theorem Tups.places (R : Tups P w s.heap a L es ep t) : t.place.toList.length = L.length := by rw [R.fnd.len, List.length_map]
theorem fits_of (hd : t.dummies = #[]) (hz : t.place.size = es.size) (hl : es.size ≤ t.mask) : t.fits es.size = true := by
  unfold SetTable.fits SetTable.fill
  rw [hd, Bool.and_eq_true, beq_iff_eq, decide_eq_true_eq]
  exact ⟨hz, by rw [hz]; exact hl⟩
theorem Tups.fits (R : Tups P w s.heap a L es ep t) : t.fits es.size = true := by
  have h1 := R.places
  have h2 := R.size
  have h3 := R.room
  rw [Array.length_toList] at h1
  exact fits_of R.fnd.none (h1.trans h2.symm) (by omega)
theorem Tups.at (R : Tups P w s.heap a L es ep t) {i : Nat} {p : Addr × List Int} (h : L[i]? = some p) : es[i]? = some (thash P w p.2, Value.ref p.1) := by
  rw [← Array.getElem?_toList, R.row]
  unfold rowsOf
  rw [List.getElem?_map, h]
  rfl
theorem steady (h : Mk t.mask) : ¬ t.gaveWay = true := by
  unfold SetTable.gaveWay
  rw [h.odd]
  decide
/-- the search for a key, from some step of its way on -/
theorem seek (R : Tups P w s.heap a L es ep t) {x : Addr} {k : List Int} (hx : IsT P w s.heap k x) (hu : A.units < cLine) {K : Nat} (hf : K < 10 * SetTable.turns t.mask)
    (gap : L2.way t.mask (thash P w k) K ∉ t.place.toList) (full : ∀ c, c < K → L2.way t.mask (thash P w k) c ∈ t.place.toList) {Q : SetFound → Shared → Prop}
    (yes : k ∈ L.map (·.2) → Q (.there none) s) (no : k ∉ L.map (·.2) → Q (.free (L2.way t.mask (thash P w k) K) false) s) :
    ∀ (fuel c : Nat) (at_ : Option SetTable.Probe), at_.getD (t.probeStart (thash P w k)) = pr t.mask (thash P w k) c → c ≤ K → K < c + fuel →
      (∀ (i : Nat) p, L[i]? = some p → p.2 = k → ∃ b, c ≤ b ∧ b < K ∧ t.place.toList[i]? = some (L2.way t.mask (thash P w k) b)) → wpAny (model P w) A (setSearchFrom a (.ref x) (thash P w k) true fuel at_) Q E s := by
  obtain ⟨o, ho, hex, hd⟩ := R.obj
  have hashes : ∀ (i : Nat) p, L[i]? = some p → (fun i => (es[i]?.map (·.1)).getD 0) i = thash P w p.2 := fun i p hp => by
    show (es[i]?.map (·.1)).getD 0 = _
    rw [R.at hp]
    rfl
  intro fuel
  induction fuel with
  | zero => intro c at_ _ h1 h2; exact absurd h2 (by omega)
  | succ fuel ih =>
    intro c at_ hat h1 h2 hre
    rw [setSearchFrom_succ]
    refine wpAny_bind (wpAny_setState_of ho hd R.fits ?_)
    dsimp only
    refine wp_if_neg (steady R.fnd.msk) ?_
    have jj : ∀ q, (nth t.mask (pr t.mask (thash P w k) c) q).j = L2.way t.mask (thash P w k) (c + q) := fun q => congrArg SetTable.Probe.j (pr_on _ _ c q)
    have met := go_spec t R.fnd.up R.fnd.none (fun i => (es[i]?.map (·.1)).getD 0) (thash P w k) (10 * SetTable.turns t.mask) (K - c) (pr t.mask (thash P w k) c) (pr_clean _ _ c) (by omega)
      (fun q hq => by rw [jj]; exact full (c + q) (by omega)) (by rw [jj, show c + (K - c) = K by omega]; exact gap)
    rcases met with ⟨q, i, q1, q2, q3, q4, q5⟩ | ⟨q4, q5⟩
    · -- something with the hash lies on the way
      have hp : t.probe (fun i => (es[i]?.map (·.1)).getD 0) (thash P w k) (at_.getD (t.probeStart (thash P w k))) = some (.candidate (L2.way t.mask (thash P w k) (c + q)) i (pr t.mask (thash P w k) (c + (q + 1)))) := by
        rw [hat, ← jj, ← pr_on]
        exact q5
      rw [hp]
      dsimp only
      rw [jj] at q2
      have il : i < L.length := by
        rw [← R.places]
        exact (List.getElem?_eq_some_iff.mp q2).1
      obtain ⟨p, hLi⟩ : ∃ p, L[i]? = some p := ⟨_, List.getElem?_eq_getElem il⟩
      have pm : p ∈ L := List.mem_of_getElem? hLi
      have live : t.slot (L2.way t.mask (thash P w k) (c + q)) = .live i := slot_live R.fnd.up q2
      have goon : wpAny (model P w) A (searchRest a (.ref x) (thash P w k) true fuel es t (L2.way t.mask (thash P w k) (c + q)) i (pr t.mask (thash P w k) (c + (q + 1)))) Q E s := by
        unfold searchRest
        rw [R.at hLi]
        dsimp only
        refine wpAny_bind (wpAny_holding (wpAny_eqBool_tuple hu (R.each p pm) hx ?_))
        refine wpAny_bind (wpAny_setState_of ho hd R.fits ?_)
        dsimp only
        by_cases e : p.2 = k
        · exact wp_if_pos (by simp [e]) (wpAny_pure (yes (List.mem_map.mpr ⟨p, pm, e⟩)))
        · refine wp_if_neg (by simp [e]) ?_
          rw [sameMem]
          simp only [if_true, live, R.at hLi]
          refine wpAny_bind (wpAny_isSame_ref_self (wpAny_bind (wpAny_pure ?_)))
          simp only [if_true]
          refine wp_if_neg (by simp [e]) ?_
          refine ih (c + (q + 1)) (some (pr t.mask (thash P w k) (c + (q + 1)))) rfl (by omega) (by omega) fun i0 p0 g1 g2 => ?_
          obtain ⟨b, b1, b2, b3⟩ := hre i0 p0 g1 g2
          refine ⟨b, Nat.lt_of_not_le fun hle => ?_, b2, b3⟩
          have hle' : b ≤ c + q := hle
          have hb : b - c < q ∨ b = c + q := by omega
          rcases hb with hb | hb
          · exact q4 (b - c) i0 hb (by rw [jj, show c + (b - c) = b by omega]; exact b3) ((hashes i0 p0 g1).trans (congrArg (thash P w) g2))
          · subst hb
            have := slot_live R.fnd.up b3
            rw [live] at this
            cases this
            rw [hLi] at g1
            cases g1
            exact e g2
      by_cases hl : t.led = true
      · exact wp_if_neg (by simp [hl]) goon
      · refine wp_if_pos (by simp [hl]) (wpAny_bind (seen_tup hx (fun y hy => ?_) (wp_if_neg (by decide) goon)))
        obtain ⟨e, he, rfl⟩ := List.mem_map.mp hy
        have he' : e ∈ es.toList := by
          have : e ∈ es ∧ e.1 = thash P w k := by simpa using he
          simpa using this.1
        rw [R.row] at he'
        obtain ⟨p2, hp2, rfl⟩ := List.mem_map.mp he'
        exact ⟨p2.2, p2.1, rfl, R.each p2 hp2⟩
    · -- the gap
      have hp : t.probe (fun i => (es[i]?.map (·.1)).getD 0) (thash P w k) (at_.getD (t.probeStart (thash P w k))) = some (.empty (L2.way t.mask (thash P w k) K) none) := by
        rw [hat, show L2.way t.mask (thash P w k) K = (nth t.mask (pr t.mask (thash P w k) c) (K - c)).j by rw [jj, show c + (K - c) = K by omega]]
        exact q5
      rw [hp]
      refine wpAny_pure (no fun hm => ?_)
      obtain ⟨p0, g0, g2⟩ := List.mem_map.mp hm
      obtain ⟨i0, g1⟩ := List.getElem?_of_mem g0
      obtain ⟨b, b1, b2, b3⟩ := hre i0 p0 g1 g2
      exact q4 (b - c) i0 (by omega) (by rw [jj, show c + (b - c) = b by omega]; exact b3) ((hashes i0 p0 g1).trans (congrArg (thash P w) g2))
theorem seek_all (R : Tups P w s.heap a L es ep t) {x : Addr} {k : List Int} (hx : IsT P w s.heap k x) (hu : A.units < cLine) {Q : SetFound → Shared → Prop} (yes : k ∈ L.map (·.2) → Q (.there none) s)
    (no : ∀ K, k ∉ L.map (·.2) → L2.way t.mask (thash P w k) K ∉ t.place.toList → (∀ c, c < K → L2.way t.mask (thash P w k) c ∈ t.place.toList) → Q (.free (L2.way t.mask (thash P w k) K) false) s) :
    wpAny (model P w) A (setSearch a (.ref x) (thash P w k) true) Q E s := by
  have h0 := R.room
  obtain ⟨K, h1, h2, h3⟩ := R.fnd.gap (by rw [List.length_map]; omega) (thash P w k)
  have h4 : 10 * SetTable.turns t.mask < 100000 := by
    have := R.fnd.msk.le
    unfold SetTable.turns
    omega
  refine seek R hx hu h1 h2 h3 yes (fun hn => no K hn h2 h3) 100000 0 none rfl (Nat.zero_le _) (by omega) fun i p hp hk => ?_
  have il : i < t.place.toList.length := by
    rw [R.places]
    exact (List.getElem?_eq_some_iff.mp hp).1
  have hj := List.getElem?_eq_getElem il
  obtain ⟨b, b1, b2⟩ := R.fnd.ahead h2 (i := i) (by rw [List.getElem?_map, hp, ← hk]; rfl) hj
  exact ⟨b, Nat.zero_le _, b1, by rw [hj, b2]⟩
/-- the sizes that come -/
theorem next_size (n : Nat) : (n = 5 → SetTable.sizeAbove (SetTable.grown n) = 32) ∧ (n = 19 → SetTable.sizeAbove (SetTable.grown n) = 128) ∧ (n = 77 → SetTable.sizeAbove (SetTable.grown n) = 512) :=
  ⟨fun h => by subst h; decide +kernel, fun h => by subst h; decide +kernel, fun h => by subst h; decide +kernel⟩
/-- what the tuples' set holds, its table perhaps too full -/
structure Laid (P : Program) (w : World) (h : Heap) (a : Addr) (L : List (Addr × List Int)) (es : Array (Int × Value)) (ep : Nat) (t : SetTable) : Prop where
  obj : ∃ o, h.get? a = some o ∧ o.ExactSet ∧ o.data = .set es ep t
  row : es.toList = rowsOf P w L
  fnd : Fnd t (L.map fun p => thash P w p.2)
  once : (L.map (·.2)).Nodup
  each : ∀ p ∈ L, IsT P w h p.2 p.1
  plain : t.plain = true
theorem grow {m wanted : Nat} (R : Laid P w s.heap a L es ep t) (hl : L.length ≤ t.mask) (hw : SetTable.sizeAbove wanted = m + 1) (W : Mk m) (hm : L.length * 5 < m * 3) {Q : Unit → Shared → Prop}
    (h : ∀ h' L' es' ep' t', Heap.SameBut a s.heap h' → Tups P w h' a L' es' ep' t' → L'.Perm L → Q () { s with heap := h' }) : wpAny (model P w) A (setRelay a wanted) Q E s := by
  obtain ⟨o, ho, hex, hd⟩ := R.obj
  have hz : es.size = L.length := by
    rw [← Array.length_toList, R.row]
    unfold rowsOf
    rw [List.length_map]
  have hpl : t.place.size = es.size := by
    have := R.fnd.len
    rw [Array.length_toList, List.length_map] at this
    rw [this, hz]
  obtain ⟨t', order, e1, e2, e3, e4, e5, e6⟩ := relaid_fnd t (hs := es.map (·.1)) (wanted := wanted) (m := m) (by rw [hw]; rfl) W (by rw [Array.size_map, hz]; omega)
  rw [Array.size_map, hz] at e2
  obtain ⟨L2, r1, r2, r3⟩ := order_rows L es order R.row e2
  rw [← r3] at e3
  have hsame : (order.filterMap (es[·]?)).size = es.size := by
    rw [← Array.length_toList, r1, hz, ← r2.length_eq]
    unfold rowsOf
    rw [List.length_map]
  have big : m + 1 ≤ sizeLine := by
    rw [sizeLine_eq]
    have := W.le
    omega
  rw [setRelay_eq]
  refine wpAny_bind (wpAny_setState_of ho hd (fits_of R.fnd.none hpl (by omega)) ?_)
  dsimp only
  refine wp_if_neg (by rw [hw]; omega) ?_
  rw [e1]
  dsimp only
  refine wpAny_bind (wp_if_neg (by rw [hsame]; simp) (wpAny_pure ?_))
  dsimp only
  refine wpAny_storeSet_of ho hd ?_ (by rw [hsame]; omega)
  have sb : Heap.SameBut a s.heap (s.heap.update a (Obj.putSet (order.filterMap (es[·]?)) t')) := Heap.SameBut.update ..
  exact h _ L2 _ (ep + 1) t' sb ⟨⟨_, store_at ho hd, hex, rfl⟩, r1, e3, (r2.map (·.2)).nodup_iff.mpr R.once, fun p hp => isT_same (R.each p (r2.mem_iff.mp hp)) ho hd sb, e6.trans R.plain, by rw [r2.length_eq, e4]; exact hm⟩ r2
theorem join (R : Tups P w s.heap a L es ep t) {x : Addr} {k : List Int} (hx : IsT P w s.heap k x) (hu : A.units < cLine) (few : L.length < 200) {Q : Bool → Shared → Prop}
    (h : ∀ b h' L' es' ep' t', Heap.SameBut a s.heap h' → Tups P w h' a L' es' ep' t' → (k ∈ L.map (·.2) → L' = L) → (k ∉ L.map (·.2) → L'.Perm ((x, k) :: L)) → Q b { s with heap := h' }) :
    wpAny (model P w) A (setAddHashed a (.ref x) (thash P w k)) Q E s := by
  obtain ⟨o, ho, hex, hd⟩ := R.obj
  have hz := R.size
  have hr := R.room
  unfold setAddHashed
  refine wpAny_holding ?_
  rw [show (100000 : Nat) = 99999 + 1 from rfl, setAddHashedIn_succ]
  refine wpAny_bind (wpAny_setState_of ho hd R.fits ?_)
  dsimp only
  refine wp_if_neg (by simp [byScan, Value.scannable]) ?_
  refine wpAny_bind (seek_all R hx hu (fun hm => wpAny_pure (h false s.heap L es ep t (Heap.SameBut.refl a s.heap) R (fun _ => rfl) fun z => absurd hm z)) fun K hm gap full => ?_)
  dsimp only
  refine wpAny_bind (wpAny_setState_of ho hd R.fits ?_)
  dsimp only
  obtain ⟨p, p1, p2, p3, p4, p5, p6, p7⟩ := R.fnd.put gap full
  generalize ht1 : (t.put (L2.way t.mask (thash P w k) K)).1 = t1 at p1 p3 p4 p5 p6 p7
  rw [p1]
  dsimp only
  have pl1 : t1.plain = true := p6.trans R.plain
  refine wp_if_pos pl1 (wpAny_bind (hashBy_tup hx ?_))
  simp only [if_true]
  have pm := put_perm L p (x, k)
  have row1 : (SetTable.insertAt es p (thash P w k, Value.ref x)).toList = rowsOf P w (L.take p ++ (x, k) :: L.drop p) := by rw [SetTable.toList_insertAt, rows_put, R.row]
  have fnd1 : Fnd t1 ((L.take p ++ (x, k) :: L.drop p).map fun p => thash P w p.2) := by
    rw [List.map_append, List.map_cons, List.map_take, List.map_drop]
    exact p3
  have once1 : ((L.take p ++ (x, k) :: L.drop p).map (·.2)).Nodup := (pm.map (·.2)).nodup_iff.mpr (List.nodup_cons.mpr ⟨hm, R.once⟩)
  have len1 := pm.length_eq
  rw [List.length_cons] at len1
  rw [List.length_map] at p7
  generalize hes : SetTable.insertAt es p (thash P w k, Value.ref x) = es1 at row1
  have size1 : es1.size = L.length + 1 := by
    rw [← Array.length_toList, row1, ← len1]
    unfold rowsOf
    rw [List.length_map]
  generalize L.take p ++ (x, k) :: L.drop p = L1 at pm row1 fnd1 once1 len1
  refine wpAny_bind (wpAny_storeSet_of ho hd ?_ (by rw [size1, sizeLine_eq]; omega))
  have sb : Heap.SameBut a s.heap (s.heap.update a (Obj.putSet es1 t1)) := Heap.SameBut.update ..
  have at1 := store_at (es' := es1) (t' := t1) ho hd
  generalize s.heap.update a (Obj.putSet es1 t1) = h1 at sb at1 ⊢
  have each1 : ∀ q ∈ L1, IsT P w h1 q.2 q.1 := fun q hq => by
    rcases List.mem_cons.mp (pm.mem_iff.mp hq) with rfl | hq
    · exact isT_same hx ho hd sb
    · exact isT_same (R.each q hq) ho hd sb
  have laid : Laid P w h1 a L1 es1 (ep + 1) t1 := ⟨⟨_, at1, hex, rfl⟩, row1, fnd1, once1, each1, pl1⟩
  have full1 : t1.tooFull = decide ((L.length + 1) * 5 ≥ t1.mask * 3) := by
    unfold SetTable.tooFull
    rw [p7]
  by_cases hf : (L.length + 1) * 5 ≥ t.mask * 3
  · refine wp_if_pos (show (!false && t1.tooFull) = true by rw [full1, p4, decide_eq_true hf]; rfl) (wpAny_bind ?_)
    rw [hz]
    have last : ∀ {m : Nat}, SetTable.sizeAbove (SetTable.grown (L.length + 1)) = m + 1 → Mk m → (L.length + 1) * 5 < m * 3 → wpAny (model P w) A (setRelay a (SetTable.grown (L.length + 1))) (fun _ s' => wpAny (model P w) A (pure true) Q E s') E { s with heap := h1 } := fun {m} h1' W h2' =>
      grow (s := { s with heap := h1 }) laid (by rw [len1, p4]; omega) h1' W (by rw [len1]; exact h2') fun h2 L2 es2 ep2 t2 sb2 R2 pm2 => wpAny_pure (h true h2 L2 es2 ep2 t2 (sb.trans sb2) R2 (fun z => absurd z hm) fun _ => pm2.trans pm)
    have sz := next_size (L.length + 1)
    have hc : L.length + 1 = 5 ∨ L.length + 1 = 19 ∨ L.length + 1 = 77 := by rcases R.fnd.msk.four with e | e | e | e <;> omega
    rcases hc with c | c | c
    · exact last (m := 31) (sz.1 c) mk31 (by omega)
    · exact last (m := 127) (sz.2.1 c) mk127 (by omega)
    · exact last (m := 511) (sz.2.2 c) mk511 (by omega)
  · refine wp_if_neg (show ¬ (!false && t1.tooFull) = true by rw [full1, p4, decide_eq_false hf]; decide) ?_
    exact wpAny_pure (h true h1 L1 es1 (ep + 1) t1 sb ⟨laid.obj, row1, fnd1, once1, each1, pl1, by rw [len1, p4]; omega⟩ (fun z => absurd z hm) fun _ => pm)
end
end VW
set_option maxRecDepth 100000
namespace VW
open PySem L2 PySem.Spec PyProof.Rows
section
variable {P : Program} {w : World} {A : Around} {E : Value → Shared → Prop} {s : Shared} {a : Addr} {L : List (Addr × List Int)} {es : Array (Int × Value)} {ep : Nat} {t : SetTable}
theorem Tups.moved {h h' : Heap} (R : Tups P w h a L es ep t) (ha : ∀ o, h.get? a = some o → h'.get? a = some o) (ht : ∀ p ∈ L, IsT P w h' p.2 p.1) : Tups P w h' a L es ep t := by
  obtain ⟨o, ho, r⟩ := R.obj
  exact ⟨⟨o, ha o ho, r⟩, R.row, R.fnd, R.once, ht, R.plain, R.room⟩
/-- the set has the first i, each key once -/
structure Has (ks : List (Addr × List Int)) (i : Nat) (L : List (Addr × List Int)) : Prop where
  key : ∀ x, x ∈ L.map (·.2) ↔ x ∈ (ks.take i).map (·.2)
  sub : ∀ p ∈ L, p ∈ ks
  len : L.length ≤ i
theorem take_one {α : Type} {l : List α} {i : Nat} {x : α} (h : l[i]? = some x) : l.take (i + 1) = l.take i ++ [x] := by
  rw [List.take_add_one, h]
  rfl
theorem Has.next {ks L' : List (Addr × List Int)} {i : Nat} {x : Addr × List Int} (g : Has ks i L) (h : ks[i]? = some x) (c1 : x.2 ∈ L.map (·.2) → L' = L) (c2 : x.2 ∉ L.map (·.2) → L'.Perm (x :: L)) : Has ks (i + 1) L' := by
  have kk : ∀ y, y ∈ (ks.take (i + 1)).map (·.2) ↔ y ∈ (ks.take i).map (·.2) ∨ y = x.2 := fun y => by
    rw [take_one h, List.map_append, List.mem_append]
    exact or_congr Iff.rfl (by rw [List.map_cons, List.map_nil, List.mem_singleton])
  by_cases c : x.2 ∈ L.map (·.2)
  · rw [c1 c]
    refine ⟨fun y => ?_, g.sub, Nat.le_succ_of_le g.len⟩
    rw [kk, ← g.key]
    exact ⟨.inl, fun z => z.elim id fun e => e ▸ c⟩
  · have pm := c2 c
    refine ⟨fun y => ?_, fun p hp => ?_, by rw [pm.length_eq]; exact Nat.succ_le_succ g.len⟩
    · rw [kk, ← g.key, (pm.map (·.2)).mem_iff, List.map_cons, List.mem_cons]
      exact Or.comm
    · rcases List.mem_cons.mp (pm.mem_iff.mp hp) with rfl | hp
      · exact List.mem_of_getElem? h
      · exact g.sub p hp
/-- the loop that puts in what is walked -/
theorem fill {I : Addr} {fp wr : List Addr} {G : Array GenState → Array GenState → Prop} {n : Nat} {Pv : Nat → Value → Prop} {St : Nat → Shared → Prop} {R : Result → Shared → Prop}
    (W : WalksS P w A.in1 I fp wr G n Pv St) (hu : A.in1.units < cLine) (S : Addr) (hSf : S ∉ fp) (ks : List (Addr × List Int)) (few : ks.length < 200) (hn : n = ks.length) (hval : ∀ i v, Pv i v → ∃ p, ks[i]? = some p ∧ v = .ref p.1)
    (h0 : Heap) (hk : ∀ p ∈ ks, IsT P w h0 p.2 p.1) (hS0 : h0.get? S = none) (hw0 : ∀ b ∈ wr, h0.get? b = none) (k : Nat) :
    ∀ (i : Nat) (s : Shared), i + k = n → St i s → (∀ b o, h0.get? b = some o → s.heap.get? b = some o) → (∃ L es ep t, Tups P w s.heap S L es ep t ∧ Has ks i L) →
      (∀ s' L es ep t, Moved (S :: wr) G s s' → Tups P w s'.heap S L es ep t → Has ks n L → (∀ b o, h0.get? b = some o → s'.heap.get? b = some o) → R (.ok (.ret .none)) s') →
      codeAny (model P w) A (.builtin "set.update.loop" ⟨[.ref S, .ref I], []⟩) R s := by
  have hSw : S ∉ wr := fun h => hSf (W.sub _ h)
  have wide : ∀ b ∈ wr, b ∈ S :: wr := fun b hb => List.mem_cons_of_mem _ hb
  have on : ∀ {s s' : Shared}, Moved wr G s s' → (∀ b o, h0.get? b = some o → s.heap.get? b = some o) → ∀ b o, h0.get? b = some o → s'.heap.get? b = some o := fun hm hkp b o e => by
    refine hm.heap b o (fun hb => ?_) (hkp b o e)
    rw [hw0 b hb] at e
    cases e
  induction k with
  | zero =>
    intro i s hi hst hkp ⟨L, es, ep, t, hS, g⟩ hR
    rw [Nat.add_zero] at hi
    subst hi
    refine codeAny_builtin F.entry_set_update_loop ?_
    rw [Around.under_plainId F.plain_set_update_loop _]
    refine wpAny_bind (W.done s _ _ hst fun s' hm => ?_)
    have hkp' := on hm hkp
    exact wpAny_pure (hR s' L es ep t (hm.mono wide) (hS.moved (fun o e => hm.heap S o hSw e) fun p hp => isT_keep (hk p (g.sub p hp)) hkp') g hkp')
  | succ k ih =>
    intro i s hi hst hkp ⟨L, es, ep, t, hS, g⟩ hR
    refine codeAny_builtin F.entry_set_update_loop ?_
    rw [Around.under_plainId F.plain_set_update_loop _]
    refine wpAny_bind (W.item i s _ _ (by omega) hst fun v s' hP hst' hm => ?_)
    obtain ⟨p, hp, rfl⟩ := hval i v hP
    have hkp' := on hm hkp
    have hx : IsT P w s'.heap p.2 p.1 := isT_keep (hk p (List.mem_of_getElem? hp)) hkp'
    have hS' : Tups P w s'.heap S L es ep t := hS.moved (fun o e => hm.heap S o hSw e) fun q hq => isT_keep (hk q (g.sub q hq)) hkp'
    refine wpAny_bind (wpAny_holding ?_)
    unfold setAdd
    refine wpAny_holding (wpAny_bind (wpAny_pyHash_tuple hu hx ?_))
    refine join (s := { s' with toks := s'.toks + (p.2.length + 1) }) hS' hx hu (by have := g.len; omega) fun b h' L' es' ep' t' same hS2 c1 c2 => ?_
    have hkp2 : ∀ b o, h0.get? b = some o → h'.get? b = some o := fun b o e => (same.2 b fun z => by rw [z, hS0] at e; cases e).trans (hkp' b o e)
    refine wpAny_pure ⟨plainId_quiet F.plain_set_update_loop _, ih (i + 1) _ (by omega) (W.frame _ s' _ _ hst' (Nat.le_add_right _ _) fun b hb o e => (same.2 b fun h : b = S => hSf (h ▸ hb)).trans e) hkp2 ⟨L', es', ep', t', hS2, g.next hp c1 c2⟩ fun s'' L2 es2 ep2 t2 hm2 hS'' g'' hkp'' => ?_⟩
    exact hR s'' L2 es2 ep2 t2 (Moved.trans W.gtrans ((hm.mono wide).then_heap (Nat.le_add_right _ _) fun b o hb e => (same.2 b fun h : b = S => hb (h ▸ List.mem_cons_self)).trans e) hm2) hS'' g'' hkp''
end
end VW
set_option maxRecDepth 100000
namespace VL
open PySem L2 PySem.Spec PyProof.Rows
end VL
set_option maxRecDepth 100000
namespace VL
open PySem L2 PySem.Spec PyProof.Rows
section
variable {X : Cx} {pins : List (Addr × Obj)} {σ : L2.St} {H : Hp} {s : Shared}
theorem smNe (hs : H sysModules = none) {a : Addr} {o : HO} (h : H a = some o) : sysModules ≠ a := fun z => by rw [z, h] at hs; cases hs
mutual
theorem Rp.reads (I : Inv X pins σ H s) (hs : H sysModules = none) : ∀ {v : V} {d : PyData}, Rp X.K H v d → ∀ u, RelV v u → ∃ as, Reads s.heap u d as ∧ sysModules ∉ as
  | _, _, .non, u, r => by cases r; exact ⟨_, .none, nofun⟩
  | _, _, .bl b, u, r => by cases r; exact ⟨_, .bool b, nofun⟩
  | _, _, .int i, u, r => by obtain ⟨t, rfl⟩ := r; exact ⟨_, .int i t, nofun⟩
  | _, _, .str x, u, r => by obtain ⟨t, rfl⟩ := r; exact ⟨_, .str x t, nofun⟩
  | _, _, .lst h a, u, r => by
    cases r
    obtain ⟨its, rv, ⟨o, n, ho, hc, _, hd⟩, _⟩ := I.list (.of h)
    obtain ⟨as, h1, h2⟩ := RpAll.reads I hs a _ rv
    exact ⟨_, .list ho hc hd h1, fun z => (List.mem_cons.mp z).elim (smNe hs h) h2⟩
  | _, _, .tup h a, u, r => by
    cases r
    obtain ⟨its, rv, ⟨o, ho, hc, n, hd⟩, _⟩ := I.tuple (.of h)
    obtain ⟨as, h1, h2⟩ := RpAll.reads I hs a _ rv
    exact ⟨_, .tuple ho hc hd h1, h2⟩
  | _, _, .dic (a := a) (ks := ks) (ds := ds) h k b, u, r => by
    cases r
    obtain ⟨_, _, vs, kv, hdo⟩ := I.hok _ _ h
    obtain ⟨o, es, ep, ho, hx, hd, _, pr, _⟩ := hdo
    have hv : Vals (ks.map (·.2)) (es.toList.map (·.val)) := by
      have go : ∀ {ks : List (Key × V)} {vs : List (Key × Value)} {es : List DictEntry}, KV ks vs → Pairs (mixKind X.prog X.w) es vs → Vals (ks.map (·.2)) (es.map (·.val)) := by
        intro ks vs es h1 h2
        induction h2 generalizing ks with
        | nil => cases h1; exact .nil
        | cons e1 e2 _ ih => cases h1 with
          | cons r1 r2 => exact .cons (by show L2.RelV _ (DictEntry.val _); rw [e2]; exact r1.2) (ih r2)
      exact go kv pr
    have hk : ReadsAll s.heap (es.toList.map (·.key)) (ds.map (·.1)) [] := by
      rw [← k]
      have go : ∀ {ks : List (Key × V)} {vs : List (Key × Value)} {es : List DictEntry}, KV ks vs → Pairs (mixKind X.prog X.w) es vs → ReadsAll s.heap (es.map (·.key)) (ks.map fun p => kP p.1) [] := by
        intro ks vs es h1 h2
        induction h2 generalizing ks with
        | nil => cases h1; exact .nil
        | @cons e kv es' kvs' e1 e2 _ ih => cases h1 with
          | @cons p _ _ _ r1 r2 =>
            have e3 : keyIs kv.1 e.key = true := e1
            have z := ih r2
            have : ∃ q : Reads s.heap e.key (kP p.1) [], True := by
              rw [r1.1]
              rcases keyIs_shape e3 with ⟨i, t, g1, g2⟩ | ⟨x, t, g1, g2⟩
              · rw [g1, g2]; exact ⟨.int i t, trivial⟩
              · rw [g1, g2]; exact ⟨.str x t, trivial⟩
            exact .cons this.1 z
      exact go kv pr
    obtain ⟨as, h1, h2⟩ := RpAll.reads I hs b _ hv
    refine ⟨_, .dict ho hx.1 hd hk h1, fun z => ?_⟩
    rcases List.mem_append.mp z with z | z
    · rcases List.mem_cons.mp z with z | z
      · exact smNe hs h z
      · cases z
    · exact h2 z
theorem RpAll.reads (I : Inv X pins σ H s) (hs : H sysModules = none) : ∀ {vs : List V} {ds : List PyData}, RpAll X.K H vs ds → ∀ us, Vals vs us → ∃ as, ReadsAll s.heap us ds as ∧ sysModules ∉ as
  | _, _, .nil, us, r => by cases r; exact ⟨_, .nil, nofun⟩
  | _, _, .cons h t, us, r => by
    cases r with
    | cons r1 r2 =>
      obtain ⟨as, h1, h2⟩ := Rp.reads I hs h _ r1
      obtain ⟨bs, h3, h4⟩ := RpAll.reads I hs t _ r2
      exact ⟨_, .cons h1 h3, fun z => (List.mem_append.mp z).elim h2 h4⟩
end
end
/-- that data can be shown -/
def shOk (d : PyData) : Bool := d.showable && decide (d.shown.length ≤ big) && decide (d.depth ≤ 60)
def oRepr (d : PyData) : Option B := if shOk d = true then some (.fr (.str d.shown)) else none
theorem big_line : big ≤ sizeLine := by decide
theorem SmB.none {X : Cx} {pins : List (Addr × Obj)} {σ : L2.St} {H : Hp} {s : Shared} (h : SmB X.base) (I : Inv X pins σ H s) : H sysModules = none := let ⟨o, e⟩ := h; (I.bs _ _ e).2
end VL
set_option maxRecDepth 100000
set_option maxHeartbeats 2000000
namespace VL
open PySem L2 PySem.Spec PyProof.Rows
section
variable {X : Cx} {pins : List (Addr × Obj)} {σ : L2.St} {H : Hp} {s : Shared} {a : Addr} {o : HO}
/-- an object that came after the entry is told from here on -/
theorem inv_track (I : Inv X pins σ H s) (n0 : X.s_0.heap.get? a = none) (hn : H a = none) (nL : a ≠ X.env.locals) (nc : ∀ x c, X.env.cells.lookup x = some c → c ≠ a) (np : ∀ p ∈ X.pn ++ pins, p.1 ≠ a)
    (new : ObjOk X.prog X.w (upd H a o) s.heap a o) : Inv X pins σ (upd H a o) s := by
  have ne : ∀ {b : Addr} {u : HO}, H b = some u → b ≠ a := fun q z => by rw [z, hn] at q; cases q
  have ne0 : ∀ {b : Addr} {u : Obj}, X.s_0.heap.get? b = some u → b ≠ a := fun q z => by rw [z, n0] at q; cases q
  refine ⟨I.ok, I.os, I.bare, ⟨I.base.keep, I.base.slot, fun b u q n z => ?_, I.base.there, fun b xs q => ?_, fun b u v q => ?_, fun b ps q => ?_⟩, I.loc, I.cell, ?_, fun x c q => ?_, fun p hp => ?_, HOk.laidN I.hok (fun _ _ q => q) hn new, I.len⟩
  · rw [upd_ne (ne0 q)]; exact I.base.free b u q n z
  · have z := I.base.tups b xs q; rw [upd_ne (ne z)]; exact z
  · have z := I.base.frzs b u v q; rw [upd_ne (ne z)]; exact z
  · obtain ⟨m, z⟩ := I.base.tbls b ps q; exact ⟨m, by rw [upd_ne (ne z)]; exact z⟩
  · rw [upd_ne (Ne.symm nL)]; exact I.free
  · rw [upd_ne (nc x c q)]; exact I.freeC x c q
  · obtain ⟨p1, p2, p3⟩ := I.pin p hp; exact ⟨p1, by rw [upd_ne (np p hp)]; exact p2, p3⟩
end
/-- what the clause wishes, the error being kept -/
def wKeep (n : Nat) (K : PySem.W.Frag) (c : Value) (i : Nat) (ts : Addr → Value → Option Addr → TS) (Wout : WX) (D : Ends) : WX := fun cls d σ H => σ.length = n →
  ∃ b, PySem.W.exmOne K cls c = some b ∧ (b = true → ∃ A, cls = .ref A ∧ d = none ∧ ∀ a, H a = none → ts a cls d { nx := fun σ' H' => H' a = none ∧ D.nx (σ'.set i none) (upd H' a (XO A a)), rt := fun _ _ => False, bk := fun _ _ => False, ct := fun _ _ => False } (σ.set i (some (.ref a))) H) ∧
    (b = false → Wout cls d σ H)
section
variable {X : Cx} {x n : Str} {c : Value} {i : Nat} {body suite : List Stmt} {b₀ : Stmt} {np pos pos' : Pos} {tb : WX → TS} {ts : Addr → Value → Option Addr → TS} {Wout : WX}
theorem ps_try_keep (est : X.stack = X.env :: X.outer) (efr : X.env.frame = some X.env.locals) (eex : X.ex = []) (ndp : X.N.Nodup) (hi : X.N[i]? = some n) (kl : X.env.kindOf n = some .local) (nm : Names X x c) (tk : Takes X Wout)
    (hb : ∀ (W : WX) (pn : List (Addr × Obj)) (xe : Value → Shared → Prop), Takes (X.tr pn xe) W → PassesOwn (model X.prog X.w) X.A X.env xe → PSs (X.tr pn xe) body (tb W))
    (hsu : ∀ (a : Addr) (oe : Obj) (cls : Value) (d : Option Addr) (pn : List (Addr × Obj)), Zc cls d oe → (∃ vs, oe.data = .fields vs) → PSs (X.suite a ((a, oe) :: pn)) (b₀ :: suite) (ts a cls d)) :
    PS X (.Try body [.ExceptHandler (some (.Name x np)) (some n) (b₀ :: suite) pos'] [] [] pos) (fun D σ H => σ.length = X.N.length → tb (wKeep X.N.length X.K c i ts Wout D) D σ H) := by
  refine ⟨fun pins s σ H D I h => wpAny_Try_except ?_⟩
  have xok := I.ok
  have frm : X.A.frames = some (X.env :: X.outer) := xok.frames.trans (congrArg some est)
  let xe1 : Value → Shared → Prop := fun e s₁ => wpAny (model X.prog X.w) X.A (noteFrame e X.env) (fun _ s₂ => wpAny (model X.prog X.w) X.A (setFlight e none) (fun _ s₃ =>
    wpAny (model X.prog X.w) X.A (handleBy e X.env [.ExceptHandler (some (.Name x np)) (some n) (b₀ :: suite) pos']) (SP X pins D) X.xe s₃) X.xe s₂) X.xe s₁
  have own1 : PassesOwn (model X.prog X.w) X.A X.env xe1 := PassesOwn.looking
  have tak1 : Takes (X.tr (X.pn ++ pins) xe1) (wKeep X.N.length X.K c i ts Wout D) := by
    rintro u s' ⟨a, B, sI, pins', σ', H', cls, d, rfl, J', nb, up, sky, na, os, ag, hw⟩
    have J : Inv X pins σ' H' sI := J'.ofTry xok
    obtain ⟨b, hb1, hyes, hno⟩ := hw J.len
    have sky1 : Sky B (X.env :: X.outer) a (Zc cls d) X.env.locals s'.heap := est ▸ sky
    show wpAny _ _ (noteFrame (.ref a) X.env) _ _ _
    refine Sky.land Zc.steady frm efr sky1 fun h3 fl3 up3 => ?_
    have J3 : Inv X pins σ' H' { s' with heap := h3 } := J.landed nb fl3.1 (up.trans up3) os ag
    obtain ⟨oe3, vs3, he3, hz3, hd3⟩ := fl3.there
    have nfr : a ∉ frs (X.env :: X.outer) := fun hm => by
      obtain ⟨_, o', e', hnf⟩ := fl3.2.2.1.mem hm
      rw [he3] at e'
      obtain rfl := Option.some.inj e'
      exact hnf _ hd3
    have nL : a ≠ X.env.locals := fun z => nfr (List.mem_filterMap.mpr ⟨X.env, .head _, by rw [efr, z]⟩)
    have nF : a ∉ X.fs := fun hm => by
      obtain ⟨e, he, q⟩ := List.mem_filterMap.mp hm
      exact nfr (List.mem_filterMap.mpr ⟨e, .tail _ he, q⟩)
    have nI : sI.heap.get? a = none := by
      by_cases q : sI.heap.get? a = none
      · exact q
      · obtain ⟨o, ho⟩ := Option.ne_none_iff_exists'.mp q
        have z := nb a o ho (by rw [est]; exact nfr)
        rw [fl3.2.1] at z
        cases z
    have n0 : X.s_0.heap.get? a = none := by
      by_cases q : X.s_0.heap.get? a = none
      · exact q
      · obtain ⟨o, ho⟩ := Option.ne_none_iff_exists'.mp q
        obtain ⟨o', z⟩ := J.base.there a o ho (by rw [eex]; exact nofun)
        rw [nI] at z
        cases z
    have S3 := J3.suite he3 hd3 na nL nF
    refine wpAny_handleBy_cons (codeAny_handlers_test ?_) nofun
    have ty : PySem.W.Looks (model X.prog X.w) h3 (typeOf (.ref a)) cls := fun A Q E s k q => wpAny_typeOf_ref (k _ _ he3) (by rw [hz3.1]; exact q)
    have mt := PySem.W.exm_one (M := model X.prog X.w) (J3.kIn) ty hb1
    have look : ∀ {Q : Value → Shared → Prop} {E : Value → Shared → Prop}, Q c { s' with heap := h3 } → wpAny (model X.prog X.w) (X.A.mark (some (.ref a))) (eval (.Name x np) X.env) Q E { s' with heap := h3 } := by
      intro Q E q
      obtain ⟨hg, dbg, hm | ⟨hm, hv, hnn⟩⟩ := nm
      · exact ld_glob (X := X.suite a ((a, oe3) :: (X.pn ++ pins))) S3 hg hm q dbg
      · exact ld_blt (X := X.suite a ((a, oe3) :: (X.pn ++ pins))) S3 hg hm hv q hnn dbg
    refine look (mt.here ?_)
    rcases b with _ | _
    · refine wpAny_handleBy_nil ?_
      obtain ⟨k1, k2, k3, oe, vs, T, oT, ts', he, hz, hd, h1, hr⟩ := id fl3
      unfold PySem.passOn
      refine wpAny_bind (wpAny_field he hd h1 ?_)
      rw [if_neg (show ¬ ((Value.ref T == Value.none) = true) by simp)]
      have last : wpAny (model X.prog X.w) X.A (setFlight (.ref a) X.env.frame) (fun _ s4 => wpAny (model X.prog X.w) X.A (throw (.ref a) : Sem Flow) (SP X pins D) X.xe s4) X.xe { s' with heap := h3 } := by
        rw [efr]
        exact HandSPX.setFlight_upZ fl3 fun h4 hh4 up4 => wpAny_throw (tk _ _ ⟨a, B, sI, pins, σ', H', cls, d, rfl, J, nb, (up.trans up3).trans up4, .inr (.inr (by rw [est]; exact hh4)), na, os, ag, hno rfl⟩)
      first
        | exact wpAny_bind (wpAny_pure (wpAny_bind last))
        | exact wpAny_bind last
    · refine codeAny_handlers_suite_as (HandSPX.lands_againZ fl3 fun h4 fl4 up4 => ?_)
      have J4 : Inv X pins σ' H' { s' with heap := h4 } := J.landed nb fl4.1 ((up.trans up3).trans up4) os ag
      obtain ⟨oe4, vs4, he4, hz4, hd4⟩ := fl4.there
      obtain ⟨A, rfl, rfl, hy⟩ := hyes rfl
      have S4 := J4.suite he4 hd4 na nL nF
      refine store_ok (X := X.suite a ((a, oe4) :: (X.pn ++ pins))) (v := .ref a) S4 ndp hi (.inl kl) rfl (fun s5 S5 => ?_) (.inr kl)
      refine wpAny_mono ((hsu a oe4 _ none (X.pn ++ pins) hz4 ⟨_, hd4⟩).run [] s5 _ H' _ S5 (hy a na)) (fun f s6 hsp => ?_) (fun _ _ z => z.elim)
      rcases f with _ | _ | _ | u
      · obtain ⟨σ6, H6, S6, n6, q6⟩ := hsp
        have J6 : Inv X ((a, oe4) :: pins) σ6 H6 s6 := ⟨xok, S6.os, S6.bare, S6.base, S6.loc, S6.cell, S6.free, S6.freeC, fun p hp => S6.pin p (by
          rcases List.mem_append.mp hp with z | z
          · exact List.mem_append_left _ (.tail _ (List.mem_append_left _ z))
          · rcases List.mem_cons.mp z with z | z
            · rw [z]; exact List.mem_append_left _ (.head _)
            · exact List.mem_append_left _ (.tail _ (List.mem_append_right _ z))), S6.hok, S6.len⟩
        refine gone_ok J6 ndp hi kl fun s7 J7 => ?_
        have g7 := (J7.pin (a, oe4) (List.mem_append_right _ (.head _))).1
        have J8 : Inv X pins (σ6.set i none) H6 s7 := J7.pins_of fun p hp => J7.pin p (List.mem_append_right _ (.tail _ hp))
        refine ⟨_, _, inv_track (o := XO A a) J8 n0 n6 nL (fun y cc q z => ?_) (fun p hp z => ?_) ⟨⟨oe4, vs4, g7, hz4, hd4⟩, ⟨oe4, g7⟩, fun _ _ ⟨o, v, q, r⟩ k => ⟨o, v, k o q, r⟩⟩, q6⟩
        · obtain ⟨v, o, ho, _⟩ := J.cell y cc q
          rw [z, nI] at ho
          cases ho
        · have ho := (J.pin p hp).1
          rw [z, nI] at ho
          cases ho
      · obtain ⟨_, _, _, z⟩ := hsp; exact z.elim
      · obtain ⟨_, _, _, z⟩ := hsp; exact z.elim
      · obtain ⟨_, _, _, _, _, z⟩ := hsp; exact z.elim
  refine wpAny_mono ((hb _ (X.pn ++ pins) xe1 tak1 own1).run [] s σ H D (I.toTry _) (h I.len)) (fun f s1 hsp => ?_) (fun e s1 he => he)
  rcases f with _ | _ | _ | u
  · obtain ⟨σ', H', J', q⟩ := hsp
    exact wpAny_execs_nil ⟨σ', H', J'.ofTry xok, q⟩
  · obtain ⟨σ', H', J', q⟩ := hsp
    exact ⟨σ', H', J'.ofTry xok, q⟩
  · obtain ⟨σ', H', J', q⟩ := hsp
    exact ⟨σ', H', J'.ofTry xok, q⟩
  · obtain ⟨v, σ', H', J', r, q⟩ := hsp
    exact ⟨v, σ', H', J'.ofTry xok, r, q⟩
end
end VL
set_option maxRecDepth 100000
namespace VL
open PySem L2
/-- the names at keep are not changed from here on -/
def fzSlots : List Nat → Env → Env
  | [], e => e
  | k :: r, e => match fz e (.s k) with
    | some p => fzSlots r p.2
    | none => fzSlots r e
def fixed : Option B → Option B
  | some (.fr d) => some (.fr d)
  | some (.ex c) => some (.ex c)
  | some (.sc ns) => some (.sc ns)
  | _ => none
def keepFr (keep : List Nat) (e : Env) : Env := (List.range e.length).map fun k => if k ∈ keep then fixed (at? e k) else none
/-- try: f, except (one of cs) as (slot i): (slot j) = it; the names at keep are as they were -/
def sTryC (i j : Nat) (cs : List Str) (keep : List Nat) (f : FS) : FS := fun e => match f (fzSlots keep e) with
  | some (.ex c _) => if c ∈ cs ∧ i < e.length ∧ i ∉ keep then some (.nx ((keepFr keep (fzSlots keep e)).set j (some (.ex c)))) else none
  | r => r
section
variable {C : Cc} {π : List (Nat × V)} {e : Env} {σ : L2.St} {w : WS}
theorem fz_len {o : O} {p : PyData × Env} (h : fz e o = some p) : p.2.length = e.length := by
  unfold fz at h
  split at h
  · split at h
    all_goals first | (cases h; done) | (cases h; simp; done) | (obtain ⟨d, _, rfl⟩ := Option.map_eq_some_iff.mp h; simp)
  · split at h
    all_goals first | (cases h; done) | (cases h; simp; done) | (obtain ⟨d, _, rfl⟩ := Option.map_eq_some_iff.mp h; simp)
theorem fzSlots_len : ∀ (ks : List Nat) (e : Env), (fzSlots ks e).length = e.length
  | [], _ => rfl
  | k :: r, e => by
    unfold fzSlots
    split
    · rename_i p q
      rw [fzSlots_len r, fz_len q]
    · exact fzSlots_len r e
theorem fzSlots_mt : ∀ (ks : List Nat) {e : Env} {w : WS}, Mt C π e σ w → ∃ w', Mt C π (fzSlots ks e) σ w' ∧ Frm w w' ∧ w'.H = w.H
  | [], e, w, m => ⟨w, m, .refl w, rfl⟩
  | k :: r, e, w, m => by
    unfold fzSlots
    split
    · rename_i p q
      have hb : ∃ b, at? e k = some b := by
        unfold fz at q
        split at q
        · cases z : at? e k with
          | none => rename_i j q2; injection q2 with q2; subst q2; rw [z] at q; cases q
          | some b => exact ⟨b, rfl⟩
        · rename_i q2; cases q2
      obtain ⟨b, hb⟩ := hb
      obtain ⟨v, h1, _⟩ := m.bok k b hb
      obtain ⟨w1, m1, f1, eH, _⟩ := fz_sound (e' := p.2) m (.refl w) (v := v) (o := .s k) h1 (by rw [q])
      obtain ⟨w2, m2, f2, eH2⟩ := fzSlots_mt r m1
      exact ⟨w2, m2, f1.trans f2, eH2.trans eH⟩
    · exact fzSlots_mt r m
theorem keepFr_at {keep : List Nat} {e : Env} {k : Nat} {b : B} (h : at? (keepFr keep e) k = some b) : k ∈ keep ∧ k < e.length ∧ at? e k = some b ∧ ∀ {G H v fp}, BOk C G H b v fp → ∀ {G' H'}, Same G G' → BOk C G' H' b v fun _ => False := by
  unfold keepFr at? at h
  rw [List.getElem?_map] at h
  by_cases hk : k < e.length
  · rw [List.getElem?_range hk] at h
    simp only [Option.map_some] at h
    by_cases hm : k ∈ keep
    · rw [if_pos hm] at h
      change fixed (at? e k) = some b at h
      cases q : at? e k with
      | none => rw [q] at h; cases h
      | some x =>
        rw [q] at h
        cases x with
        | fr d => cases h; exact ⟨hm, hk, rfl, fun hb _ _ s => ⟨hb.1.mono s, fun _ z => z⟩⟩
        | ex d => cases h; exact ⟨hm, hk, rfl, fun hb _ _ s => ⟨(let ⟨p, A, q1, q2, q3⟩ := hb.1; ⟨p, A, q1, q2, s _ _ q3⟩), fun _ z => z⟩⟩
        | sc d => cases h; exact ⟨hm, hk, rfl, fun hb _ _ s => ⟨(let ⟨p, q1, q2⟩ := hb.1; ⟨p, q1, s.seq q2⟩), fun _ z => z⟩⟩
        | ow d => cases h
        | od d => cases h
        | rs n d => cases h
        | tr t => cases h
    · rw [if_neg hm] at h
      cases h
  · rw [List.getElem?_eq_none (by simpa using hk)] at h
    cases h
theorem Mt.sfree {i : Nat} {x : Option V} (m : Mt C π e σ w) (he : at? e i = none) (hp : ∀ p ∈ π, p.1 ≠ i) : Mt C π e (σ.set i x) w := by
  refine ⟨by rw [List.length_set]; exact m.len, m.sub, fun k b q => ?_, m.non, m.dis, fun p h => ?_⟩
  · have hk : i ≠ k := fun z => by subst z; rw [he] at q; cases q
    rw [List.getElem?_set_ne hk]
    exact m.bok k b q
  · rw [List.getElem?_set_ne (Ne.symm (hp p h))]
    exact m.pin p h
end
section
variable {X : Cx} {ρ : Nat → Res} {W : WX} {pn : List Nat} {body : List Stmt} {fb : FS} {x n y : Str} {np pos pos' py pn2 pa : Pos} {c : Value}
theorem vs_tryC (V0 : Vx X W) (i j : Nat) (cs : List Str) (keep : List Nat) (nm : Names X x c) (hcs : ∀ d ∈ cs, ∀ A, X.mg d = some (.ref A) → PySem.W.exmOne X.K (.ref A) c = some true)
    (hb : ∀ (W' : WX) (p2 : List (Addr × Obj)) (xe : Value → Shared → Prop), Vx (X.tr p2 xe) W' → VSs (X.tr p2 xe) ρ W' (keep ++ pn) body fb) (hij : i ≠ j := by decide) (hi : X.N[i]? = some n := by rfl) (hj : X.N[j]? = some y := by rfl) (kl : X.env.kindOf n = some .local := by rfl) (hip : i ∉ pn := by decide) (hjp : j ∉ pn := by decide)
    (hx : Loc X.env.scope y := by first | exact Or.inl rfl | exact Or.inr rfl) (hv : Vis X.env.scope n := by first | exact Or.inl rfl | exact Or.inr (Or.inl rfl) | exact Or.inr (Or.inr rfl)) (hsw : swapsWith (.Name n pn2) (some (.Name y py)) pa.line X.env = pure false := by rfl)
    (hfy : X.fn y = true ∨ X.env.scope.names.lookup y = some .local := by first | exact .inl rfl | exact .inr rfl) (hd : (n == ("__debug__" : Str)) = false := by decide) (hcd : (n == ("__classdict__" : Str)) = false := by decide)
    (est : X.stack = X.env :: X.outer := by rfl) (efr : X.env.frame = some X.env.locals := by rfl) (eex : X.ex = [] := by rfl) :
    VS X ρ W pn (.Try body [.ExceptHandler (some (.Name x np)) (some n) [.Assign [.Name y py] (.Name n pn2) pa] pos'] [] [] pos) (sTryC i j cs keep fb) := by
  let tb : WX → TS := fun W' D σ H => ∃ π e w, w.H = H ∧ (∀ p ∈ π, p.1 ∈ keep ++ pn) ∧ Mt (cc X ρ) π e σ w ∧ PostS (cc X ρ) W' π w (fb e) D
  have hbt : ∀ (W' : WX) (p2 : List (Addr × Obj)) (xe : Value → Shared → Prop), Takes (X.tr p2 xe) W' → PassesOwn (model X.prog X.w) X.A X.env xe → PSs (X.tr p2 xe) body (tb W') := by
    intro W' p2 xe tk po
    obtain ⟨t, pt, st⟩ := hb W' p2 xe ⟨V0.calm, V0.room, V0.gd, V0.sm, V0.nd, tk, po⟩
    refine ⟨fun pins s σ H D I h => ?_⟩
    obtain ⟨π, e, w, rfl, hp, m, q⟩ := h
    exact pt.run pins s σ w.H D I (st π e σ w D hp m q)
  have hsu : ∀ (a : Addr) (oe : Obj) (cls : Value) (d : Option Addr) (p2 : List (Addr × Obj)), Zc cls d oe → (∃ vs, oe.data = .fields vs) → PSs (X.suite a ((a, oe) :: p2)) [.Assign [.Name y py] (.Name n pn2) pa] (tAsg (tVar i) (gName j)) :=
    fun a oe cls d p2 _ _ => pss_one (ps_set (X := X.suite a ((a, oe) :: p2)) V0.nd hj hx (pe_var (X := X.suite a ((a, oe) :: p2)) hi hv hd hcd) hsw hfy)
  refine ⟨_, ps_try_keep (Wout := W) est efr eex V0.nd hi kl nm V0.tk hbt (ts := fun _ _ _ => tAsg (tVar i) (gName j)) hsu, fun π e σ w D hp m h hlen => ?_⟩
  have hpi : ∀ p ∈ π, p.1 ≠ i := fun p q z => hip (z ▸ hp p q)
  have hpj : ∀ p ∈ π, p.1 ≠ j := fun p q z => hjp (z ▸ hp p q)
  obtain ⟨w0, m0, f0, eH0⟩ := fzSlots_mt (C := cc X ρ) keep m
  -- the kept names, pinned
  let π2 : List (Nat × V) := (keep.filterMap fun k => (σ[k]?.bind id).map fun v => (k, v)) ++ π
  have hπ2 : ∀ p ∈ π2, p.1 ∈ keep ++ pn := fun p hp2 => by
    rcases List.mem_append.mp hp2 with z | z
    · obtain ⟨k, hk, q⟩ := List.mem_filterMap.mp z
      cases q2 : σ[k]?.bind id with
      | none => rw [q2] at q; cases q
      | some v => rw [q2] at q; cases q; exact List.mem_append_left _ hk
    · exact List.mem_append_right _ (hp p z)
  have m1 : Mt (cc X ρ) π2 (fzSlots keep e) σ w0 := ⟨m0.len, m0.sub, m0.bok, m0.non, m0.dis, fun p hp2 => by
    rcases List.mem_append.mp hp2 with z | z
    · obtain ⟨k, hk, q⟩ := List.mem_filterMap.mp z
      cases q2 : σ[k]?.bind id with
      | none => rw [q2] at q; cases q
      | some v =>
        rw [q2] at q
        cases q
        cases q3 : σ[k]? with
        | none => rw [q3] at q2; cases q2
        | some o => rw [q3] at q2; have q4 : o = some v := q2; rw [q4]
    · exact m0.pin p z⟩
  have less : ∀ {e' : Env} {σ' : L2.St} {w' : WS}, Mt (cc X ρ) π2 e' σ' w' → Mt (cc X ρ) π e' σ' w' := fun m' => ⟨m'.len, m'.sub, m'.bok, m'.non, m'.dis, fun p z => m'.pin p (List.mem_append_right _ z)⟩
  refine ⟨π2, fzSlots keep e, w0, eH0, hπ2, m1, ?_⟩
  unfold sTryC at h
  have h' := h.from f0
  cases q : fb (fzSlots keep e) with
  | none => rw [q] at h'; exact h'.elim
  | some r =>
    rw [q] at h'
    cases r with
    | nx e1 => exact fun σ' w' m' f' => h' σ' w' (less m') f'
    | rt b e1 => exact fun v σ' w' m' f' k' => h' v σ' w' (less m') f' k'
    | bk e1 => exact fun σ' w' m' f' => h' σ' w' (less m') f'
    | ct e1 => exact fun σ' w' m' f' => h' σ' w' (less m') f'
    | ex d e1 =>
      simp only at h'
      split at h'
      case isFalse => exact h'.elim
      case isTrue hdl =>
      obtain ⟨hd, hle, hik⟩ := hdl
      intro σ' w' A hA m' f' hlen'
      refine ⟨true, hcs d hd A hA, fun _ => ⟨A, rfl, rfl, fun a na => ?_⟩, fun z => nomatch z⟩
      have hsl : σ'.length = e.length := by rw [hlen', ← hlen, m.len]
      have hil : i < σ'.length := by rw [hsl]; exact hle
      refine ⟨.ref a, by rw [List.getElem?_set_self hil], na, ?_⟩
      have hG : w'.G a = none := m'.sub.free na
      -- what is kept
      have mk : Mt (cc X ρ) π (keepFr keep (fzSlots keep e)) σ' { w' with fp := fun _ _ => False } := by
        refine ⟨by unfold keepFr; rw [List.length_map, List.length_range, fzSlots_len, hsl], m'.sub, fun k b hb => ?_, fun _ _ _ z => z, fun _ _ _ z _ => z.elim, (less m').pin⟩
        obtain ⟨k1, k2, k3, k4⟩ := keepFr_at (C := cc X ρ) hb
        obtain ⟨v, v1, v2⟩ := m0.bok k b k3
        refine ⟨v, m'.pin (k, v) (List.mem_append_left _ (List.mem_filterMap.mpr ⟨k, k1, by rw [v1]; rfl⟩)), k4 v2 f'.g⟩
      have fk : Frm w' { w' with fp := fun _ _ => False } := ⟨Same.refl _, fun b o z _ => ⟨z, rfl, fun _ q => q⟩, fun _ z => z⟩
      have mn := mk.new (o := XO A a) na
      have mf := mn.frz (p := a) (o := XO A a) upd_same hG fun k => id
      have ff := (Frm.new (w := { w' with fp := fun _ _ => False }) (o := XO A a) na).frz (o := XO A a) (.inl na) hG
      have ni : at? (keepFr keep (fzSlots keep e)) i = none := by
        cases z : at? (keepFr keep (fzSlots keep e)) i with
        | none => rfl
        | some b => exact absurd (keepFr_at (C := cc X ρ) z).1 hik
      have m3 := mf.sfree (i := i) (x := some (.ref a)) ni hpi
      have hb4 : BOk (cc X ρ) (upd w'.G a (XO A a)) (upd w'.H a (XO A a)) (.ex d) (.ref a) fun _ => False := ⟨⟨a, A, rfl, hA, upd_same⟩, fun _ z => z⟩
      obtain ⟨w4, m4, f4, eH4, _⟩ := m3.bind (.refl _) hpj hb4 fun _ z => z.elim
      have m5 := m4.sfree (i := i) (x := none) (by rw [at_set_ne (Ne.symm hij)]; exact ni) hpi
      have eH : upd w'.H a (XO A a) = w4.H := by rw [eH4]; rfl
      rw [eH]
      exact h' _ w4 m5 (f'.trans (fk.trans (ff.trans f4)))
end
end VL
set_option maxRecDepth 100000
namespace VL
open PySem L2
def isSub (c d : Str) : Bool := decide (c = d) || decide (d = "OrderError") || decide (d = "ValueError")
/-- what is asked of a class of errors, computed -/
def kExc (K : PySem.W.Frag) (D : Addr) : Bool :=
  He.eqO (PySem.W.findIn K (.ref D) "__getattribute__") (some (some (.builtin "BaseException.__getattribute__"))) && He.eqO (PySem.W.findIn K (.ref D) "__getattr__") (some none) && decide (PySem.W.subIn K (.ref D) (.type "BaseException") = some true) &&
  PySem.W.hasDictIn K D && He.eqO (PySem.W.findIn K (.ref D) "__class__") (some (some (.builtin "object.__class__"))) && He.eqO (PySem.W.specialIn K (.builtin "object.__class__") "__get__") (some (some (.builtin "getset_descriptor.__get__"))) &&
  decide (PySem.W.takesIn K (.builtin "object.__class__") = some true) && decide (PySem.W.mroIn K D (.type "object") = some true)
theorem kExc_ok {K : PySem.W.Frag} {D : Addr} (h : kExc K D = true) : ExcC K D := by
  unfold kExc at h
  simp only [Bool.and_eq_true, decide_eq_true_eq] at h
  obtain ⟨⟨⟨⟨⟨⟨⟨h1, h2⟩, h3⟩, h4⟩, h5⟩, h6⟩, h7⟩, h8⟩ := h
  exact ⟨He.eqO_ok h1, He.eqO_ok h2, h3, h4, He.eqO_ok h5, He.eqO_ok h6, h7, h8⟩
def exB (cs ds : List Str) (K : PySem.W.Frag) : Bool :=
  cs.all (fun c => kExc K (He.ga K c) && ds.all (fun d => decide (PySem.W.kitOne K (.ref (He.ga K c)) (.ref (He.ga K d)) = some (isSub c d))) && decide (PySem.W.kitOne K (.ref (He.ga K c)) (.type "ValueError") = some true) && decide (PySem.W.exmOne K (.ref (He.ga K c)) (.ref (He.ga K "OrderError")) = some true)) &&
  ds.all (fun d => decide (PySem.W.kitOne K (.type "NoneType") (.ref (He.ga K d)) = some false)) && decide (PySem.W.kitOne K (.type "NoneType") (.type "ValueError") = some false)
def gAll (K : PySem.W.Frag) (mg : Str → Option Value) : List Str → Prop
  | [] => True
  | c :: r => mg c = some (.ref (He.ga K c)) ∧ gAll K mg r
theorem gAll.get {K : PySem.W.Frag} {mg : Str → Option Value} : ∀ {l : List Str} {c : Str}, gAll K mg l → c ∈ l → mg c = some (.ref (He.ga K c))
  | _ :: _, _, h, .head _ => h.1
  | _ :: r, _, h, .tail _ q => gAll.get (l := r) h.2 q
structure ExF (K : PySem.W.Frag) (mg : Str → Option Value) (cs ds : List Str) : Prop where
  ok : exB cs ds K = true
  g1 : gAll K mg cs
  g2 : gAll K mg ds
  oe : mg "OrderError" = some (.ref (He.ga K "OrderError"))
  ve : mg "ValueError" = none
section
variable {K : PySem.W.Frag} {mg : Str → Option Value} {cs ds : List Str}
theorem ExF.exm (f : ExF K mg cs ds) : ∀ d ∈ cs, ∀ A, mg d = some (.ref A) → PySem.W.exmOne K (.ref A) (.ref (He.ga K "OrderError")) = some true := by
  intro d hd A hA
  have e := f.g1.get hd
  rw [hA] at e
  cases e
  have h := f.ok
  unfold exB at h
  simp only [Bool.and_eq_true, List.all_eq_true, decide_eq_true_eq] at h
  exact (h.1.1 d hd).2
theorem ExF.exc (f : ExF K mg cs ds) {c : Str} (hc : c ∈ cs) : ExcC K (He.ga K c) := by
  have h := f.ok
  unfold exB at h
  simp only [Bool.and_eq_true, List.all_eq_true, decide_eq_true_eq] at h
  exact kExc_ok (h.1.1 c hc).1.1.1
/-- the class that d names -/
def clsOf (K : PySem.W.Frag) (d : Str) : Value := if d = "ValueError" then .type "ValueError" else .ref (He.ga K d)
def clsV (K : PySem.W.Frag) (d : Str) : V := if d = "ValueError" then .ty "ValueError" else .ref (He.ga K d)
theorem cls_cv (K : PySem.W.Frag) (d : Str) : ClsV (clsV K d) (clsOf K d) := by
  unfold clsV clsOf
  split
  · exact .ty _
  · exact .own _
theorem ExF.kit (f : ExF K mg cs ds) {c d : Str} (hc : c ∈ cs) (hd : d = "ValueError" ∨ d ∈ ds) : PySem.W.kitOne K (.ref (He.ga K c)) (clsOf K d) = some (isSub c d) := by
  have h := f.ok
  unfold exB at h
  simp only [Bool.and_eq_true, List.all_eq_true, decide_eq_true_eq] at h
  unfold clsOf
  split
  · rename_i q
    subst q
    rw [(h.1.1 c hc).1.2]
    simp [isSub]
  · rename_i q
    rcases hd with hd | hd
    · exact absurd hd q
    · exact (h.1.1 c hc).1.1.2 d hd
theorem ExF.kitN (f : ExF K mg cs ds) {d : Str} (hd : d = "ValueError" ∨ d ∈ ds) : PySem.W.kitOne K (.type "NoneType") (clsOf K d) = some false := by
  have h := f.ok
  unfold exB at h
  simp only [Bool.and_eq_true, List.all_eq_true, decide_eq_true_eq] at h
  unfold clsOf
  split
  · exact h.2
  · rename_i q
    rcases hd with hd | hd
    · exact absurd hd q
    · exact h.1.2 d hd
end
/-- isinstance(x, c): x None or an error that is held -/
def rIsX (K : PySem.W.Frag) : List V → Hp → VK → Prop := fun xs H Q => ∃ (x c : V) (u : Value) (b : Bool), xs = [x, c] ∧ ClsV c u ∧ ((x = .non ∧ PySem.W.kitOne K (.type "NoneType") u = some b) ∨ ∃ a A, x = .ref a ∧ H a = some (XO A a) ∧ ExcC K A ∧ PySem.W.kitOne K (.ref A) u = some b) ∧ Q (.bl b) H
def rIsXT (K : PySem.W.Frag) : List V → Hp → VK → Prop := fun xs H Q => ∃ (x : V) (tp : Addr) (cs : List V) (us : List Value) (b : Bool), xs = [x, .ref tp] ∧ H tp = some (.tup cs) ∧ Paired ClsV cs us ∧
  ((x = .non ∧ PySem.W.kitAny K (.type "NoneType") us = some b) ∨ ∃ a A, x = .ref a ∧ H a = some (XO A a) ∧ ExcC K A ∧ PySem.W.kitAny K (.ref A) us = some b) ∧ Q (.bl b) H
section
variable {X : Cx}
theorem xo_inst {pins : List (Addr × Obj)} {σ : L2.St} {H : Hp} {s : Shared} {a A : Addr} (I : Inv X pins σ H s) (h : H a = some (XO A a)) : ∃ oe, PySem.W.InstAt s.heap a oe A none := by
  obtain ⟨⟨oe, vs, ho, hz, hd⟩, _, _⟩ := I.hok a _ h
  refine ⟨oe, ?_⟩
  obtain ⟨oc, od, oda, osl⟩ := oe
  obtain ⟨h1, h2⟩ := hz
  dsimp only at h1 h2 hd
  subst h1 h2 hd
  exact ⟨ho, rfl, rfl, trivial⟩
theorem call_isX : CallR X (.builtin "isinstance") (rIsX X.K) := by
  intro pins s σ H xs us Q I r h
  obtain ⟨x, c, u, b, rfl, k, e, q⟩ := h
  obtain ⟨u1, u2, rfl, r1, r2⟩ := vals2 r
  obtain rfl := k.eq r2
  rcases e with ⟨rfl, e⟩ | ⟨a, A, rfl, ha, C, e⟩
  · cases r1
    exact PySem.W.kia_one PySem.W.kitx_none I.kIn True.intro e nofun fun tk => ⟨.bl b, H, I.tok tk, rfl, q⟩
  · cases r1
    obtain ⟨oe, J⟩ := xo_inst I ha
    exact PySem.W.kia_one (PySem.W.handS_kitx_exc C.hg C.hk C.hs C.hd C.ha C.hn C.ht C.hm) I.kIn J e nofun fun tk => ⟨.bl b, H, I.tok tk, rfl, q⟩
theorem call_isXT : CallR X (.builtin "isinstance") (rIsXT X.K) := by
  intro pins s σ H xs us Q I r h
  obtain ⟨x, tp, cs, ws, b, rfl, hT, k, e, q⟩ := h
  obtain ⟨u1, u2, rfl, r1, r2⟩ := vals2 r
  cases (show u2 = Value.ref tp from r2)
  obtain ⟨_, its, rv, o, h1, h2, n, h3⟩ := (show ObjOk X.prog X.w H s.heap tp (.tup cs) from I.hok tp _ hT)
  obtain rfl := ClsV.all k rv
  obtain ⟨oc, od, dt, sl⟩ := o
  simp only at h2 h3
  subst h2 h3
  rcases e with ⟨rfl, e⟩ | ⟨a, A, rfl, ha, C, e⟩
  · cases r1
    exact PySem.W.kia_tup PySem.W.kitx_none I.kIn True.intro h1 e nofun fun tk => ⟨.bl b, H, I.tok tk, rfl, q⟩
  · cases r1
    obtain ⟨oe, J⟩ := xo_inst I ha
    exact PySem.W.kia_tup (PySem.W.handS_kitx_exc C.hg C.hk C.hs C.hd C.ha C.hn C.ht C.hm) I.kIn J h1 e nofun fun tk => ⟨.bl b, H, I.tok tk, rfl, q⟩
end
/-- isinstance(f, (ds)) -/
def fIsX (cs ds : List Str) (fa : FE) : FE := fun e => bnd (fa e) fun o e1 => match bOf e1 o with
  | some (.ex c) => if c ∈ cs then okD (.bool (ds.any (isSub c))) e1 else none
  | some (.fr .none) => okD (.bool false) e1
  | _ => none
section
variable {X : Cx} {ρ : Nat → Res} {W : WX} {a : Expr} {pos p p2 p3 : Pos} {fa : FE}
theorem pe_cls {cs ds : List Str} (f : ExF X.K X.mg cs ds) {d : Str} (hd : d = "ValueError" ∨ d ∈ ds) (hg : Gl X d) (hn : d ≠ "__name__") (hdb : (d == ("__debug__" : Str)) = false) : PE X (.Name d pos) (tC (clsV X.K d)) := by
  unfold clsV
  split
  · rename_i q
    subst q
    exact pe_bltn hg f.ve (u := .type "ValueError") (by decide +kernel) rfl hn hdb
  · rename_i q
    rcases hd with hd | hd
    · exact absurd hd q
    · exact pe_glob hg (f.g2.get hd) rfl hdb
theorem ve_isX {cs ds : List Str} {d : Str} (f : ExF X.K X.mg cs ds) (ha : VE X ρ W a fa) (hm : X.mg "isinstance" = none) (hd : d = "ValueError" ∨ d ∈ ds := by decide +kernel) (hg : Gl X "isinstance" := by rfl) (hgx : Gl X d := by rfl) (hn : d ≠ "__name__" := by decide) (hdb : (d == ("__debug__" : Str)) = false := by decide)
    (he : starEach (a :: [.Name d p2]) X.env = (false, eval a X.env) :: starEach [.Name d p2] X.env := by rfl) (he2 : starEach (.Name d p2 :: []) X.env = (false, eval (.Name d p2) X.env) :: starEach [] X.env := by rfl) (hpl : (backTo pos (starEach [.Name d p2] X.env)).any (·.1) = false := by rfl) :
    VE X ρ W (.Call (.Name "isinstance" p) [a, .Name d p2] [] pos) (fIsX cs [d] fa) := by
  obtain ⟨t, pa, s⟩ := ha
  refine ⟨_, pe_callB call_isX hg hm PyProof.Rows.boot_isinstance (pa_cons pa (pa_cons (pe_cls f hd hgx hn hdb) pa_nil he2) he) (by decide) (by decide) he hpl, fun π e σ w Q m h => ?_⟩
  refine s π e σ w _ m (h.bnd fun o1 e1 v1 w1 m1 f1 k1 h1 => ?_)
  have h3 := h1.from f1
  split at h3
  · rename_i c q
    split at h3
    · rename_i hc
      obtain ⟨fp, ⟨z, A, rfl, hA, hG⟩, _⟩ := bOf_sound m1 k1 q
      have e := f.g1.get hc
      rw [show X.mg c = some (.ref A) from hA] at e
      cases e
      refine ⟨_, _, _, _, rfl, cls_cv X.K d, .inr ⟨z, _, rfl, m1.sub _ _ hG, f.exc hc, f.kit hc hd⟩, ?_⟩
      have := h3 (.bl (isSub c d)) w1 m1 (.refl _) (.fr (by simpa [List.any] using Rp.bl (isSub c d)))
      exact this
    · exact h3.elim
  · rename_i q
    obtain ⟨fp, hb⟩ := bOf_sound m1 k1 q
    cases hb.1
    exact ⟨_, _, _, _, rfl, cls_cv X.K d, .inl ⟨rfl, f.kitN hd⟩, h3 _ w1 m1 (.refl _) (.fr (.bl _))⟩
  · exact h3.elim
/-- the names in a written tuple -/
inductive NTup (X : Cx) : List Str → List Expr → Prop
  | nil : NTup X [] []
  | cons {d : Str} {p : Pos} {ds : List Str} {es : List Expr} (hg : Gl X d) (hn : d ≠ "__name__") (hdb : (d == ("__debug__" : Str)) = false) (hs : starEach (.Name d p :: es) X.env = (false, eval (.Name d p) X.env) :: starEach es X.env) : NTup X ds es → NTup X (d :: ds) (.Name d p :: es)
def tClss (K : PySem.W.Frag) : List Str → TA
  | [] => tNil
  | d :: ds => tCons (tC (clsV K d)) (tClss K ds)
theorem pa_clss {cs ds : List Str} (f : ExF X.K X.mg cs ds) : ∀ {l : List Str} {es : List Expr}, NTup X l es → (∀ d ∈ l, d = "ValueError" ∨ d ∈ ds) → PA X es (tClss X.K l)
  | _, _, .nil, _ => pa_nil
  | d :: _, _, .cons hg hn hdb hs t, h => pa_cons (pe_cls f (h d (.head _)) hg hn hdb) (pa_clss f t fun d' q => h d' (.tail _ q)) hs
theorem clss_run {K : PySem.W.Frag} {σ : L2.St} {H : Hp} : ∀ {l : List Str} {Q : List V → Hp → Prop}, Q (l.map (clsV K)) H → tClss K l σ H Q
  | [], _, h => h
  | d :: l, Q, h => clss_run (l := l) (Q := fun xs H2 => Q (clsV K d :: xs) H2) h
theorem kitAny_eq {K : PySem.W.Frag} {t : Value} {g : Str → Bool} : ∀ {l : List Str}, (∀ d ∈ l, PySem.W.kitOne K t (clsOf K d) = some (g d)) → PySem.W.kitAny K t (l.map (clsOf K)) = some (l.any g)
  | [], _ => rfl
  | d :: l, h => by
    refine kitAny_cons (b := g d) (h d (.head _)) (fun q => ?_) fun q => ?_
    · rw [List.any_cons, q, Bool.false_or]
      exact kitAny_eq fun d' z => h d' (.tail _ z)
    · rw [List.any_cons, q, Bool.true_or]
theorem clss_pair {K : PySem.W.Frag} : ∀ l : List Str, Paired ClsV (l.map (clsV K)) (l.map (clsOf K))
  | [] => .nil
  | d :: l => .cons (cls_cv K d) (clss_pair l)
theorem ve_isXT {cs ds l : List Str} {es : List Expr} {kt : Nat} (f : ExF X.K X.mg cs ds) (ha : VE X ρ W a fa) (hm : X.mg "isinstance" = none) (nt : NTup X l es) (hd : ∀ d ∈ l, d = "ValueError" ∨ d ∈ ds := by decide +kernel) (hl : l.length ≤ 100 := by decide) (hg : Gl X "isinstance" := by rfl)
    (he : starEach (a :: [.Tuple es kt p2]) X.env = (false, eval a X.env) :: starEach [.Tuple es kt p2] X.env := by rfl) (he2 : starEach (.Tuple es kt p2 :: []) X.env = (false, eval (.Tuple es kt p2) X.env) :: starEach [] X.env := by rfl) (hpl : (backTo pos (starEach [.Tuple es kt p2] X.env)).any (·.1) = false := by rfl) :
    VE X ρ W (.Call (.Name "isinstance" p) [a, .Tuple es kt p2] [] pos) (fIsX cs l fa) := by
  obtain ⟨t, pa, s⟩ := ha
  refine ⟨_, pe_callB call_isXT hg hm PyProof.Rows.boot_isinstance (pa_cons pa (pa_cons (pe_tup (pa_clss f nt hd)) pa_nil he2) he) (by decide) (by decide) he hpl, fun π e σ w Q m h => ?_⟩
  refine s π e σ w _ m (h.bnd fun o1 e1 v1 w1 m1 f1 k1 h1 => ?_)
  have h3 := h1.from f1
  show tTup (tClss X.K l) σ w1.H _
  refine clss_run ⟨by rw [List.length_map]; exact Nat.le_trans hl (by decide), fun tp ht => ?_⟩
  have mn := m1.new (o := .tup (l.map (clsV X.K))) ht
  have fn := Frm.new (w := w1) (o := .tup (l.map (clsV X.K))) ht
  have pc : Paired ClsV (l.map (clsV X.K)) (l.map (clsOf X.K)) := clss_pair l
  split at h3
  · rename_i c q
    split at h3
    · rename_i hc
      obtain ⟨fp, ⟨z, A, rfl, hA, hG⟩, _⟩ := bOf_sound m1 k1 q
      have e := f.g1.get hc
      rw [show X.mg c = some (.ref A) from hA] at e
      cases e
      refine ⟨_, tp, _, _, l.any (isSub c), rfl, upd_same, pc, .inr ⟨z, _, rfl, ?_, f.exc hc, kitAny_eq fun d q => f.kit hc (hd d q)⟩, h3 _ (w1.new tp _) mn fn (.fr (.bl _))⟩
      rw [upd_ne (ne_of_none (m1.sub _ _ hG) ht)]
      exact m1.sub _ _ hG
    · exact h3.elim
  · rename_i q
    obtain ⟨fp, hb⟩ := bOf_sound m1 k1 q
    cases hb.1
    refine ⟨_, tp, _, _, false, rfl, upd_same, pc, .inl ⟨rfl, ?_⟩, h3 _ (w1.new tp _) mn fn (.fr (.bl _))⟩
    rw [kitAny_eq (g := fun _ => false) fun d q => f.kitN (hd d q)]
    simp
  · exact h3.elim
end
/-- is None, is not None, of what may be an error -/
def fIsN (neg : Bool) (fa : FE) : FE := fun e => bnd (fa e) fun o e1 => match bOf e1 o with
  | some (.ex _) => okD (.bool neg) e1
  | some (.fr d) => okD (.bool (isNone d != neg)) e1
  | _ => none
end VL
set_option maxRecDepth 100000
namespace VL
open PySem L2 PySem.Spec PyProof.Rows
section
variable {X : Cx} {ρ : Nat → Res} {W : WX} {a : Expr} {pos p p2 p3 cpos apos : Pos} {fa : FE} {j : Option String}
theorem se_isN {C : Cc} {t : TE} (neg : Bool) {r : V → V → Hp → VK → Prop} (hr : ∀ x H Q, Q (.bl (decide (x = V.non) != neg)) H → r x .non H Q) (s : SE C W t fa) : SE C W (tOp r t (tC .non)) (fIsN neg fa) := fun π e σ w Q m h => by
  refine s π e σ w _ m (h.bnd fun o1 e1 v1 w1 m1 f1 k1 h1 => ?_)
  have h3 := h1.from f1
  refine hr _ _ _ ?_
  split at h3
  · rename_i c q
    obtain ⟨fp, ⟨z, A, rfl, _⟩, _⟩ := bOf_sound m1 k1 q
    have e2 : (decide (V.ref z = V.non) != neg) = neg := by
      rw [decide_eq_false (fun q => nomatch q)]; cases neg <;> rfl
    rw [e2]
    exact h3 _ w1 m1 (.refl _) (.fr (.bl _))
  · rename_i d q
    obtain ⟨fp, hb⟩ := bOf_sound m1 k1 q
    have e1 : decide (v1 = V.non) = isNone d := by
      cases hb.1 <;> rfl
    rw [e1]
    exact h3 _ w1 m1 (.refl _) (.fr (.bl _))
  · exact h3.elim
theorem hrIs : ∀ (x : V) (H : Hp) (Q : VK), Q (.bl (decide (x = V.non) != false)) H → (fun (x y : V) (H : Hp) (Q : VK) => y = V.non ∧ Q (.bl (decide (x = V.non))) H) x .non H Q := fun x H Q h => ⟨rfl, by simpa using h⟩
theorem vt_isN {i : Nat} (ha : VE X ρ W a fa) : VT X ρ W (.Compare a [.Is] [.Constant .none i p] pos) (fTest (fIsN false fa)) := by
  obtain ⟨t, pp, s⟩ := ha
  exact ⟨_, pt_cmpR op_isN pp pe_non (by first | exact nomark _ | rfl), st_test (se_isN false hrIs s)⟩
end
end VL
set_option maxRecDepth 100000
namespace VL
open PySem L2 PySem.Spec PyProof.Rows
section
variable {X : Cx} {ρ : Nat → Res} {W : WX} {a : Expr} {pos : Pos} {fa : FE}
/-- nothing is promised -/
def sVoid : FS := fun _ => none
theorem vss_void {pn : List Nat} {st : List Stmt} : VSs X ρ W pn st sVoid := ⟨fun _ _ _ => False, ⟨fun _ _ _ _ _ _ h => h.elim⟩, fun _ _ _ _ _ _ _ h => h⟩
end
end VL
set_option maxRecDepth 100000
namespace VL
open PySem L2
section
variable {X : Cx} {ρ : Nat → Res} {W : WX} {a : Expr} {es : List Expr} {pos p : Pos} {fa : FE} {as_ : FA} {C : Cc} {π : List (Nat × V)} {e e1 e2 : Env} {σ : St} {w w0 w1 w2 : WS}
/-- a slot more -/
def WS.push (w : WS) (n : Nat) (fp : Addr → Prop) : WS := { w with fp := fun i a => if i = n then fp a else w.fp i a }
theorem at_push {x : Option B} {i : Nat} : at? (e ++ [x]) i = if i = e.length then x else at? e i := by
  unfold at?
  by_cases h : i = e.length
  · subst h
    rw [if_pos rfl, List.getElem?_append_right (Nat.le_refl _)]
    simp
  · rw [if_neg h]
    by_cases h2 : i < e.length
    · rw [List.getElem?_append_left h2]
    · rw [List.getElem?_eq_none (by rw [List.length_append, List.length_singleton]; omega), List.getElem?_eq_none (by omega)]
theorem Mt.push {x : B} {v : V} {fp : Addr → Prop} (m : Mt C π e σ w) (hb : BOk C w.G w.H x v fp) (hd : ∀ a, fp a → ∀ i, ¬ w.fp i a) : Mt C π (e ++ [some x]) (σ ++ [some v]) (w.push e.length fp) := by
  have out : ∀ i, ¬ i < e.length → ∀ a, ¬ w.fp i a := fun i hi a z => m.non i (by unfold at?; rw [List.getElem?_eq_none (by omega)]) a z
  refine ⟨by simp [m.len], m.sub, fun i b q => ?_, fun i q a z => ?_, fun i j a h1 h2 => ?_, fun q hq => ?_⟩
  · rw [at_push] at q
    by_cases h : i = e.length
    · rw [if_pos h] at q
      cases q
      refine ⟨v, by rw [h, m.len, List.getElem?_append_right (Nat.le_refl _)]; simp, ?_⟩
      have e1 : (w.push e.length fp).fp i = fp := by funext a; show (if i = e.length then fp a else w.fp i a) = fp a; rw [if_pos h]
      rw [e1]
      exact hb
    · rw [if_neg h] at q
      obtain ⟨u, h1, h2⟩ := m.bok i b q
      have hl := (List.getElem?_eq_some_iff.mp h1).1
      refine ⟨u, by rw [List.getElem?_append_left hl]; exact h1, ?_⟩
      have e1 : (w.push e.length fp).fp i = w.fp i := by funext a; show (if i = e.length then fp a else w.fp i a) = w.fp i a; rw [if_neg h]
      rw [e1]
      exact h2
  · rw [at_push] at q
    have z' : (if i = e.length then fp a else w.fp i a) := z
    by_cases h : i = e.length
    · rw [if_pos h] at q; cases q
    · rw [if_neg h] at q z'
      exact m.non i q a z'
  · have h1' : (if i = e.length then fp a else w.fp i a) := h1
    have h2' : (if j = e.length then fp a else w.fp j a) := h2
    by_cases hi : i = e.length
    · rw [if_pos hi] at h1'
      by_cases hj : j = e.length
      · rw [hi, hj]
      · rw [if_neg hj] at h2'
        exact absurd h2' (hd a h1' j)
    · rw [if_neg hi] at h1'
      by_cases hj : j = e.length
      · rw [if_pos hj] at h2'
        exact absurd h1' (hd a h2' i)
      · rw [if_neg hj] at h2'
        exact m.dis i j a h1' h2'
  · have := m.pin q hq
    rw [List.getElem?_append_left (List.getElem?_eq_some_iff.mp this).1]
    exact this
theorem Frm.push {fp : Addr → Prop} {n : Nat} (f : Frm w0 w) (hf : ∀ a, fp a → w0.H a = none ∨ ∃ i, w0.fp i a) : Frm w0 (w.push n fp) := by
  refine ⟨f.g, fun a o h k => ?_, f.t⟩
  obtain ⟨h1, h2, h3⟩ := f.k a o h k
  refine ⟨h1, h2, fun i z => ?_⟩
  have z' : (if i = n then fp a else w.fp i a) := z
  by_cases hi : i = n
  · rw [if_pos hi] at z'
    rcases hf a z' with q | ⟨j, q⟩
    · rw [q] at h; cases h
    · exact k j q
  · rw [if_neg hi] at z'
    exact h3 i z'
end
end VL
set_option maxRecDepth 100000
namespace VL
open PySem L2
/-- a thing of its own, as a tree -/
def trOf : B → Option Tr
  | .fr d => some (.fr d)
  | .ow ds => some (.nd .lst (ds.map .fr))
  | .tr t => some t
  | _ => none
section
variable {C : Cc} {π : List (Nat × V)} {e e' : Env} {σ : St} {w w0 : WS} {o : O} {v : V} {t : Tr}
theorem tall_fr {G H : Hp} : ∀ {xs : List V} {ds : List PyData}, RpAll C.K G xs ds → TAll C G H (ds.map .fr) xs []
  | _, _, .nil => .nil
  | _, _, .cons r t => .cons (as := []) (.fr r) (tall_fr t)
theorem bok_tr {G H : Hp} {b : B} {fp : Addr → Prop} (h : BOk C G H b v fp) (ht : trOf b = some t) : BOk C G H (.tr t) v fp := by
  cases b with
  | fr d =>
    cases ht
    exact ⟨[], .fr h.1, List.nodup_nil, fun a => ⟨fun z => absurd z (h.2 a), fun z => nomatch z⟩⟩
  | ow ds =>
    cases ht
    obtain ⟨p, xs, rfl, h1, h2, h3, h4⟩ := h
    exact ⟨[p], .lst h1 h2 (tall_fr h3), by simp, fun a => (h4 a).trans (by simp)⟩
  | tr t' => cases ht; exact h
  | od ds => cases ht
  | ex c => cases ht
  | rs k d => cases ht
  | sc ns => cases ht
theorem TAll.append {G H : Hp} : ∀ {ts us : List Tr} {xs ys : List V} {as bs : List Addr}, TAll C G H ts xs as → TAll C G H us ys bs → TAll C G H (ts ++ us) (xs ++ ys) (as ++ bs)
  | _, _, _, _, _, _, .nil, k => k
  | _, _, _, _, _, bs, .cons (as := a1) (bs := b1) h t, k => by
    rw [List.append_assoc]
    exact .cons h (TAll.append t k)
theorem TAll.length {G H : Hp} : ∀ {ts : List Tr} {xs : List V} {as : List Addr}, TAll C G H ts xs as → xs.length = ts.length
  | _, _, _, .nil => rfl
  | _, _, _, .cons _ t => by rw [List.length_cons, List.length_cons, TAll.length t]
theorem TAll.one {G H : Hp} {as : List Addr} (h : TOk C G H t v as) : TAll C G H [t] [v] as := by
  have := TAll.cons h (.nil (C := C) (G := G) (H := H))
  rwa [List.append_nil] at this
end
end VL
set_option maxRecDepth 100000
namespace VL
open PySem L2
/-- what all are frozen -/
def frsT : List Tr → Option (List PyData)
  | [] => some []
  | .fr d :: r => (frsT r).map (d :: ·)
  | .nd _ _ :: _ => none
/-- a tree in a slot; fl: a list of what is frozen -/
def rowB (fl : Bool) : Tr → Option B
  | .fr d => if fl = true then none else some (.fr d)
  | .nd k ts => if fl = true then (match k with
    | .lst => (frsT ts).map .ow
    | _ => none) else some (.tr (.nd k ts))
section
variable {C : Cc} {π : List (Nat × V)} {e e' : Env} {σ : St} {w w0 w1 : WS}
theorem frs_all {G H : Hp} : ∀ {ts : List Tr} {ds : List PyData} {xs : List V} {as : List Addr}, frsT ts = some ds → TAll C G H ts xs as → RpAll C.K G xs ds ∧ as = []
  | [], _, _, _, h, .nil => by
    cases h
    exact ⟨.nil, rfl⟩
  | .fr d :: r, ds, _, _, h, .cons h1 h2 => by
    have h' : (frsT r).map (d :: ·) = some ds := h
    cases q : frsT r with
    | none => rw [q] at h'; cases h'
    | some es =>
      rw [q] at h'
      cases h'
      obtain ⟨g1, g2⟩ := frs_all q h2
      cases h1 with
      | fr rr => exact ⟨.cons rr g1, by rw [g2]; rfl⟩
  | .nd _ _ :: _, _, _, _, h, _ => by cases h
theorem bok_rowB {fl : Bool} {b : B} {G H : Hp} {t : Tr} {v : V} {as : List Addr} (hb : rowB fl t = some b) (h : TOk C G H t v as) (nd : as.Nodup) : BOk C G H b v fun a => a ∈ as := by
  unfold rowB at hb
  split at hb
  · split at hb
    · cases hb
    · cases hb
      cases h with
      | fr r => exact ⟨r, fun a z => nomatch z⟩
  · rename_i k ts
    split at hb
    · split at hb
      · cases q : frsT ts with
        | none => rw [q] at hb; cases hb
        | some ds =>
          rw [q] at hb
          cases hb
          cases h with
          | lst n1 n2 n3 =>
            rename_i p xs as'
            obtain ⟨g1, g2⟩ := frs_all q n3
            subst g2
            exact ⟨p, xs, rfl, n1, n2, g1, fun a => by simp⟩
      · cases hb
    · cases hb
      exact ⟨as, h, nd, fun _ => Iff.rfl⟩
theorem TAll.split {G H : Hp} : ∀ {us ts : List Tr} {xs : List V} {as : List Addr}, TAll C G H (us ++ ts) xs as → ∃ x1 x2 a1 a2, xs = x1 ++ x2 ∧ as = a1 ++ a2 ∧ TAll C G H us x1 a1 ∧ TAll C G H ts x2 a2
  | [], ts, xs, as, h => ⟨[], xs, [], as, rfl, rfl, .nil, h⟩
  | u :: us, ts, _, _, .cons h t => by
    obtain ⟨x1, x2, a1, a2, rfl, rfl, h1, h2⟩ := TAll.split t
    exact ⟨_ :: x1, x2, _ ++ a1, a2, rfl, (List.append_assoc _ _ _).symm, .cons h h1, h2⟩
/-- things at some addresses, in no slot: hidden -/
structure Hid (w : WS) (as : List Addr) : Prop where
  nd : as.Nodup
  g : ∀ a ∈ as, w.G a = none
  h : ∀ a ∈ as, ∃ o, w.H a = some o
  n : ∀ a ∈ as, ∀ i, ¬ w.fp i a
theorem Hid.step {as : List Addr} (k : Hid w as) (f : Frm w w1) : Hid w1 as ∧ ∀ a ∈ as, w1.H a = w.H a ∧ w1.G a = w.G a := by
  have key : ∀ a ∈ as, w1.H a = w.H a ∧ w1.G a = w.G a ∧ ∀ i, ¬ w1.fp i a := fun a ha => by
    obtain ⟨o, ho⟩ := k.h a ha
    obtain ⟨g1, g2, g3⟩ := f.k a o ho (k.n a ha)
    exact ⟨g1.trans ho.symm, g2, g3⟩
  exact ⟨⟨k.nd, fun a ha => (key a ha).2.1.trans (k.g a ha), fun a ha => by rw [(key a ha).1]; exact k.h a ha, fun a ha => (key a ha).2.2⟩, fun a ha => ⟨(key a ha).1, (key a ha).2.1⟩⟩
theorem Hid.sub {as bs : List Addr} (k : Hid w as) (h : bs.Sublist as) : Hid w bs := ⟨k.nd.sublist h, fun a ha => k.g a (h.subset ha), fun a ha => k.h a (h.subset ha), fun a ha => k.n a (h.subset ha)⟩
/-- a slot taken out: what it owned is hidden -/
theorem Mt.take {i : Nat} {b : B} {t : Tr} (m : Mt C π e σ w) (h : at? e i = some b) (ht : trOf b = some t) : ∃ v w' as, σ[i]? = some (some v) ∧ Mt C π (e.set i none) σ w' ∧ Frm w w' ∧ w'.H = w.H ∧ w'.G = w.G ∧ TOk C w'.G w'.H t v as ∧ Hid w' as ∧ (∀ a, a ∈ as ↔ w.fp i a) ∧ ∀ l a, w'.fp l a → w.fp l a := by
  obtain ⟨v, h1, h2⟩ := m.bok i b h
  obtain ⟨as, g1, g2, g3⟩ := bok_tr h2 ht
  obtain ⟨w', m', f', eH, eG, hl⟩ := m.drop (i := i)
  have hn : ∀ a ∈ as, ∀ j, ¬ w'.fp j a := fun a ha j z => by
    by_cases hj : i = j
    · subst hj
      exact m'.non i (at_set_same h) a z
    · exact hj (m.dis i j a ((g3 a).mpr ha) (hl j a z))
  refine ⟨v, w', as, h1, m', f', eH, eG, by rw [eH, eG]; exact g1, ⟨g2, fun a ha => ?_, fun a ha => ?_, hn⟩, fun a => (g3 a).symm, hl⟩
  · rw [eG]; exact (g1.own a ha).1
  · rw [eH]; exact (g1.own a ha).2
/-- a hidden thing given to a slot that is free -/
theorem Mt.give {i : Nat} {b : B} {v : V} {as : List Addr} (m : Mt C π e σ w) (f : Frm w0 w) (hv : σ[i]? = some (some v)) (hb : ∀ fp : Addr → Prop, (∀ a, fp a ↔ a ∈ as) → BOk C w.G w.H b v fp) (hd : Hid w as) (so : ∀ a ∈ as, w0.H a = none ∨ ∃ k, w0.fp k a) :
    Mt C π (e.set i (some b)) σ { w with fp := fun k a => if k = i then a ∈ as else w.fp k a } ∧ Frm w0 { w with fp := fun k a => if k = i then a ∈ as else w.fp k a } := by
  have hlt : i < e.length := by rw [m.len]; exact (List.getElem?_eq_some_iff.mp hv).1
  refine ⟨⟨by rw [List.length_set]; exact m.len, m.sub, fun j c q => ?_, fun j q a z => ?_, fun j k a x y => ?_, m.pin⟩, ⟨f.g, fun a o q n => ?_, f.t⟩⟩
  · by_cases hj : i = j
    · subst hj
      rw [at_set_lt hlt] at q
      cases q
      exact ⟨v, hv, hb _ fun a => by show (if i = i then a ∈ as else w.fp i a) ↔ _; rw [if_pos rfl]⟩
    · rw [at_set_ne hj] at q
      obtain ⟨u, k1, k2⟩ := m.bok j c q
      refine ⟨u, k1, ?_⟩
      have e1 : (fun a => (if j = i then a ∈ as else w.fp j a)) = w.fp j := by funext a; rw [if_neg (Ne.symm hj)]
      show BOk C w.G w.H c u (fun a => if j = i then a ∈ as else w.fp j a)
      rw [e1]
      exact k2
  · have z' : (if j = i then a ∈ as else w.fp j a) := z
    by_cases hj : i = j
    · subst hj
      rw [at_set_lt hlt] at q
      cases q
    · rw [at_set_ne hj] at q
      rw [if_neg (Ne.symm hj)] at z'
      exact m.non j q a z'
  · have x' : (if j = i then a ∈ as else w.fp j a) := x
    have y' : (if k = i then a ∈ as else w.fp k a) := y
    by_cases hj : j = i
    · rw [if_pos hj] at x'
      by_cases hk : k = i
      · rw [hj, hk]
      · rw [if_neg hk] at y'
        exact absurd y' (hd.n a x' k)
    · rw [if_neg hj] at x'
      by_cases hk : k = i
      · rw [if_pos hk] at y'
        exact absurd x' (hd.n a y' j)
      · rw [if_neg hk] at y'
        exact m.dis j k a x' y'
  · obtain ⟨h1, h2, h3⟩ := f.k a o q n
    refine ⟨h1, h2, fun k z => ?_⟩
    have z' : (if k = i then a ∈ as else w.fp k a) := z
    by_cases hk : k = i
    · rw [if_pos hk] at z'
      rcases so a z' with r | ⟨l, r⟩
      · rw [r] at q; cases q
      · exact n l r
    · rw [if_neg hk] at z'
      exact h3 k z'
theorem Mt.unpin {q : Nat × V} (m : Mt C (q :: π) e σ w) : Mt C π e σ w := ⟨m.len, m.sub, m.bok, m.non, m.dis, fun p hp => m.pin p (List.mem_cons_of_mem _ hp)⟩
end
section
variable {X : Cx} {ρ : Nat → Res} {W : WX} {pn : List Nat} {f : FS}
theorem TAll.at {C : Cc} {G H : Hp} {t : Tr} {r : List Tr} {x2 : List V} {a2 : List Addr} (h : TAll C G H (t :: r) x2 a2) : ∃ x y a b, x2 = x :: y ∧ a2 = a ++ b ∧ TOk C G H t x a ∧ TAll C G H r y b := by
  cases h with
  | cons h1 h2 => exact ⟨_, _, _, _, rfl, rfl, h1, h2⟩
/-- the list at p, its rows done and left, all hidden -/
structure Rws (C : Cc) (w0 w : WS) (p : Addr) (xs : List V) (us ts : List Tr) (k : Nat) (as1 as2 : List Addr) : Prop where
  at_ : w.H p = some (.lst xs)
  kk : k = us.length
  len : xs.length = us.length + ts.length
  a1 : TAll C w.G w.H us (xs.take k) as1
  a2 : TAll C w.G w.H ts (xs.drop k) as2
  hid : Hid w (p :: (as1 ++ as2))
  src : ∀ a ∈ p :: (as1 ++ as2), w0.H a = none ∨ ∃ j, w0.fp j a
theorem Rws.step {C : Cc} {w0 w w1 : WS} {p : Addr} {xs : List V} {us ts : List Tr} {k : Nat} {as1 as2 : List Addr} (r : Rws C w0 w p xs us ts k as1 as2) (f : Frm w w1) : Rws C w0 w1 p xs us ts k as1 as2 := by
  obtain ⟨h1, h2⟩ := r.hid.step f
  exact ⟨(h2 p List.mem_cons_self).1.trans r.at_, r.kk, r.len, r.a1.mono f.g fun a ha => h2 a (List.mem_cons_of_mem _ (List.mem_append_left _ ha)), r.a2.mono f.g fun a ha => h2 a (List.mem_cons_of_mem _ (List.mem_append_right _ ha)), h1, r.src⟩
end
end VL
set_option maxRecDepth 100000
namespace VL
open PySem L2 PySem.Spec PyProof.Rows
open PySem.W (alike minD AlikeAll)
open PySem.SeqAt (shaped)
end VL
set_option maxRecDepth 100000
namespace VL
open PySem L2 PySem.Spec PyProof.Rows
end VL
set_option maxRecDepth 100000
namespace VL
open PySem L2 PySem.Spec PyProof.Rows
end VL
set_option maxRecDepth 100000
namespace VL
open PySem L2
end VL
set_option maxRecDepth 100000
namespace VL
open PySem L2
def allO (e : Env) : List O := (List.range e.length).map .s
/-- the rows of a list at p from k on, hidden -/
structure Tl (C : Cc) (w0 w : WS) (p : Addr) (xs : List V) (ts : List Tr) (k : Nat) (as : List Addr) : Prop where
  at_ : w.H p = some (.lst xs)
  len : xs.length = k + ts.length
  al : TAll C w.G w.H ts (xs.drop k) as
  hid : Hid w (p :: as)
  src : ∀ a ∈ p :: as, w0.H a = none ∨ ∃ j, w0.fp j a
theorem Tl.step {C : Cc} {w0 w w1 : WS} {p : Addr} {xs : List V} {ts : List Tr} {k : Nat} {as : List Addr} (r : Tl C w0 w p xs ts k as) (f : Frm w w1) : Tl C w0 w1 p xs ts k as := by
  obtain ⟨h1, h2⟩ := r.hid.step f
  exact ⟨(h2 p List.mem_cons_self).1.trans r.at_, r.len, r.al.mono f.g fun a ha => h2 a (List.mem_cons_of_mem _ ha), h1, r.src⟩
/-- the next row out of it, into the free slot j -/
theorem Tl.next {C : Cc} {π : List (Nat × V)} {e : Env} {σ : St} {w0 w : WS} {p : Addr} {xs : List V} {t : Tr} {ts : List Tr} {k j : Nat} {as : List Addr} {fl : Bool} {b : B} (r : Tl C w0 w p xs (t :: ts) k as) (m : Mt C π (e.set j none) σ w) (f : Frm w0 w) (hj : j < e.length) (hp : ∀ q ∈ π, q.1 ≠ j) (hb : rowB fl t = some b) :
    ∃ (hk : k < xs.length) (w' : WS) (a1 a2 : List Addr), as = a1 ++ a2 ∧ Mt C π ((e.set j none).set j (some b)) (σ.set j (some xs[k])) w' ∧ Frm w0 w' ∧ w'.H = w.H ∧ w'.G = w.G ∧ Tl C w0 w' p xs ts (k + 1) a2 ∧ (∀ l a, w'.fp l a → w.fp l a ∨ a ∈ a1) := by
  have hlt : k < xs.length := by rw [r.len, List.length_cons]; omega
  refine ⟨hlt, ?_⟩
  have al := r.al
  rw [List.drop_eq_getElem_cons hlt] at al
  obtain ⟨x, ys, at_, ar, ex, ea, tt, tr⟩ := TAll.at al
  cases ex
  subst ea
  have sub1 : at_.Sublist (p :: (at_ ++ ar)) := (List.sublist_append_left at_ ar).trans (List.sublist_cons_self _ _)
  have sub2 : (p :: ar).Sublist (p :: (at_ ++ ar)) := List.Sublist.cons_cons p (List.sublist_append_right at_ ar)
  have hidt : Hid w at_ := r.hid.sub sub1
  have hidr : Hid w (p :: ar) := r.hid.sub sub2
  have dsj : ∀ a ∈ at_, a ∉ p :: ar := fun a ha z => by
    obtain ⟨d1, d2⟩ := List.nodup_cons.mp r.hid.nd
    obtain ⟨d3, d4, d5⟩ := List.nodup_append.mp d2
    rcases List.mem_cons.mp z with rfl | z
    · exact d1 (List.mem_append_left _ ha)
    · exact d5 a ha a z rfl
  have hl : j < (e.set j none).length := by rw [List.length_set]; exact hj
  have m3 : Mt C π (e.set j none) (σ.set j (some xs[k])) w := m.sfree (at_set_lt hj) hp
  have hjs : (σ.set j (some xs[k]))[j]? = some (some xs[k]) := List.getElem?_set_self (by rw [← m.len]; exact hl)
  obtain ⟨m4, f4⟩ := m3.give (w0 := w0) f hjs (fun fp hfp => by
    have := bok_rowB hb tt hidt.nd
    have e1 : (fun a => a ∈ at_) = fp := by funext a; exact propext (hfp a).symm
    rw [e1] at this
    exact this) hidt (fun a ha => r.src a (sub1.subset ha))
  refine ⟨_, at_, ar, rfl, m4, f4, rfl, rfl, ⟨r.at_, by rw [r.len, List.length_cons]; omega, tr, ⟨hidr.nd, hidr.g, hidr.h, fun a ha l z => ?_⟩, fun a ha => r.src a (sub2.subset ha)⟩, fun l a z => ?_⟩
  · have z' : (if l = j then a ∈ at_ else w.fp l a) := z
    by_cases hl : l = j
    · rw [if_pos hl] at z'
      exact dsj a z' ha
    · rw [if_neg hl] at z'
      exact hidr.n a ha l z'
  · have z' : (if l = j then a ∈ at_ else w.fp l a) := z
    by_cases hl : l = j
    · rw [if_pos hl] at z'
      exact .inr z'
    · rw [if_neg hl] at z'
      exact .inl z'
end VL
set_option maxRecDepth 100000
namespace VL
open PySem L2
/-- what a comprehension holds, hidden; and what else is hidden -/
structure Acc (C : Cc) (w0 w : WS) (D : Addr) (xs : List V) (acc : List Tr) (as ex : List Addr) : Prop where
  at_ : w.H D = some (.lst xs)
  al : TAll C w.G w.H acc xs as
  hid : Hid w (D :: (as ++ ex))
  src : ∀ a ∈ D :: as, w0.H a = none ∨ ∃ j, w0.fp j a
theorem Acc.step {C : Cc} {w0 w w1 : WS} {D : Addr} {xs : List V} {acc : List Tr} {as ex : List Addr} (r : Acc C w0 w D xs acc as ex) (f : Frm w w1) : Acc C w0 w1 D xs acc as ex := by
  obtain ⟨h1, h2⟩ := r.hid.step f
  exact ⟨(h2 D List.mem_cons_self).1.trans r.at_, r.al.mono f.g fun a ha => h2 a (List.mem_cons_of_mem _ (List.mem_append_left _ ha)), h1, r.src⟩
end VL
set_option maxRecDepth 100000
namespace VL
open PySem L2
end VL
set_option maxRecDepth 100000
namespace VL
open PySem L2
end VL
set_option maxRecDepth 100000
namespace VL
open PySem L2
section
variable {C : Cc} {W : WX} {π : List (Nat × V)} {e e' : Env} {σ σ' : St} {w w0 w1 : WS}
/-- what slots hold, pinned -/
def pins (σ : St) (e : Env) (ks : List Nat) : List (Nat × V) := ks.filterMap fun k => match at? e k, σ[k]? with
  | some _, some (some v) => some (k, v)
  | _, _ => none
end
end VL
set_option maxRecDepth 100000
namespace VL
open PySem L2 PySem.Spec PyProof.Rows
end VL
set_option maxRecDepth 100000
namespace VL
open PySem L2
end VL
set_option maxRecDepth 100000
set_option maxHeartbeats 2000000
namespace VL
open PySem L2 PySem.Spec PyProof.Rows
end VL
set_option maxRecDepth 100000
set_option maxHeartbeats 2000000
namespace VL
open PySem L2 PySem.Spec PyProof.Rows
/-- what a def promises there -/
structure FnU (P : Program) (w : World) (K : PySem.W.Frag) (mg : Str → Option Value) (base : Heap) (k : Nat) (f : Addr) (fd : FuncData) (ps : List Str) (sp : Sp) : Prop where
  cnt : ∀ vs H Q E, sp vs H Q E → vs.length = ps.length
  go : ∀ (A : Around) (out : List PySem.Env) (s : Shared) (H : Hp) (ar : Args) (us : List Value) (vs : List V) (Q : VK) (E : XK), L2H.RoomH k A → A.guards = some [] → SmB base → Env0 P w K mg base A out s H → BindsTo s fd ar (ps.zip us) → Vals vs us → sp vs H Q E →
    codeAny (model P w) A (.call (.ref f) ar) (CR (L2.CX P w) out P w H s Q E) s
section
variable {X : Cx} {k : Nat} {f : Addr} {fd : FuncData} {ps : List Str} {sp : Sp} {E : L2.St → XK} {x : Str} {p pos : Pos} {e : Expr} {es : List Expr} {t : TA}
theorem FnU.runs {pins : List (Addr × Obj)} {σ : L2.St} {H : Hp} {s : Shared} {Q : VK} {us : List Value} {vs : List V} (Fu : FnU X.prog X.w X.K X.mg X.base k f fd ps sp) (rh : L2H.RoomH k X.A) (gd : X.A.guards = some []) (sm : SmB X.base) (bn : Binds X.K fd ps [])
    (ps1 : PassesAt (L2.CX X.prog X.w) X σ (E σ)) (J : Inv X pins σ H s) (rv : Vals vs us) (hs : sp vs H Q (E σ)) : wpAny (model X.prog X.w) X.A (call (.ref f) us) (EP X pins σ Q) X.xe s := by
  have ln : us.length = ps.length := rv.length.symm.trans (Fu.cnt _ _ _ _ hs)
  have bb := bn s us J.kIn (by rw [List.append_nil, ln]); rw [List.append_nil] at bb
  refine wpAny_call (codeAny_mono (Fu.go X.A X.stack s H ⟨us, []⟩ us vs Q (E σ) rh gd sm J.env0 bb rv hs) fun res s2 ce => ?_)
  rcases res with er | fl
  · exact ps1 pins H s er s2 J ce
  · rcases fl with _ | _ | _ | u
    all_goals first | exact J.after ce | exact ce.elim
end
end VL
set_option maxRecDepth 100000
namespace VL
open PySem L2 PySem.Spec PyProof.Rows
def oStr (d : PyData) : Option B := match d with
  | .str x => some (.fr (.str x))
  | .int i => if i.natAbs.log2 < 1920 then some (.fr (.str (toString i))) else none
  | .list xs => oRepr (.list xs)
  | .tuple xs => oRepr (.tuple xs)
  | _ => none
def rStr (K : PySem.W.Frag) : List V → Hp → VK → Prop := fun xs H Q => ∃ v d x, xs = [v] ∧ Rp K H v d ∧ oStr d = some (.fr (.str x)) ∧ Q (.str x) H
theorem call_strA {X : Cx} (rm : Room 1 X.A) (gd : X.A.guards = some []) (sm : SmB X.base) : CallR X (.type "str") (rStr X.K) := by
  intro pins s σ H xs us Q I r h
  obtain ⟨v, d, x, rfl, hv, ok, q⟩ := h
  obtain ⟨u, rfl, ru⟩ := vals1 r
  have hu := rm.un
  have hns := sm.none I
  cases hv with
  | non => cases ok
  | bl b => cases ok
  | int i =>
    obtain ⟨t, rfl⟩ := ru
    unfold oStr at ok
    dsimp only at ok
    split at ok
    · rename_i hl
      cases ok
      exact PySem.P.str_of_int hl ⟨.str _, H, I.tok _, ⟨_, rfl⟩, q⟩
    · cases ok
  | str y => obtain ⟨t, rfl⟩ := ru; cases ok; exact PySem.P.str_of_str ⟨.str _, H, I, ⟨_, rfl⟩, q⟩
  | lst h1 h2 =>
    have ok : oRepr _ = _ := ok
    unfold oRepr at ok
    split at ok
    case isFalse => cases ok
    case isTrue ho =>
    cases ok
    unfold shOk at ho
    simp only [Bool.and_eq_true, decide_eq_true_eq] at ho
    obtain ⟨⟨o1, o2⟩, o3⟩ := ho
    obtain ⟨as, rd, n⟩ := Rp.reads I hns (.lst h1 h2) u ru
    cases ru
    exact str_of_reads rd o1 (fun _ => n) gd (by omega) (fun _ _ e => e) (fun h' u tk hk => ⟨.str _, H, I.kept (t' := tk) hk, ⟨_, rfl⟩, q⟩) (Nat.le_trans o2 big_line)
  | tup h1 h2 =>
    have ok : oRepr _ = _ := ok
    unfold oRepr at ok
    split at ok
    case isFalse => cases ok
    case isTrue ho =>
    cases ok
    unfold shOk at ho
    simp only [Bool.and_eq_true, decide_eq_true_eq] at ho
    obtain ⟨⟨o1, o2⟩, o3⟩ := ho
    obtain ⟨as, rd, n⟩ := Rp.reads I hns (.tup h1 h2) u ru
    cases ru
    exact str_of_reads rd o1 (fun _ => n) gd (by omega) (fun _ _ e => e) (fun h' u tk hk => ⟨.str _, H, I.kept (t' := tk) hk, ⟨_, rfl⟩, q⟩) (Nat.le_trans o2 big_line)
  | dic h1 h2 h3 => cases ok
section
variable {X : Cx} {ρ : Nat → Res} {W : WX} {a : Expr} {pos p : Pos} {fa : FE}
theorem oStr_fr {d : PyData} {b : B} (h : oStr d = some b) : ∃ x, b = .fr (.str x) := by
  cases d with
  | str x => cases h; exact ⟨_, rfl⟩
  | int i =>
    unfold oStr at h
    dsimp only at h
    split at h
    · cases h; exact ⟨_, rfl⟩
    · cases h
  | list xs =>
    have h : oRepr _ = _ := h
    unfold oRepr at h
    split at h
    · cases h; exact ⟨_, rfl⟩
    · cases h
  | tuple xs =>
    have h : oRepr _ = _ := h
    unfold oRepr at h
    split at h
    · cases h; exact ⟨_, rfl⟩
    · cases h
  | _ => cases h
theorem ve_strA (V0 : Vx X W) (ha : VE X ρ W a fa) (hm : X.mg "str" = none) (hg : Gl X "str" := by rfl)
    (he : starEach [a] X.env = (false, eval a X.env) :: starEach [] X.env := by rfl) : VE X ρ W (.Call (.Name "str" p) [a] [] pos) (fUn oStr fa) := by
  obtain ⟨t, pa, sa⟩ := ha
  refine ⟨_, pe_callTy (call_strA V0.room V0.gd V0.sm) hg hm b_str (pa_cons pa pa_nil he) (by decide) (by decide) he rfl, fun π e σ w Q m h => ?_⟩
  refine sa π e σ w _ m (h.bnd fun o1 e1 v1 w1 m1 f1 k1 h1 => ?_)
  have h3 := h1.from f1
  cases q1 : res e1 o1 with
  | none => rw [q1] at h3; exact h3.elim
  | some d1 =>
    rw [q1] at h3
    simp only [Option.bind_some] at h3
    cases q2 : oStr d1 with
    | none => rw [q2] at h3; exact h3.elim
    | some b =>
      obtain ⟨x, rfl⟩ := oStr_fr q2
      rw [q2] at h3
      exact ⟨v1, d1, x, rfl, (res_sound m1 k1 q1).rp m1.sub, q2, h3 _ w1 m1 (.refl _) (.fr (.str _))⟩
end
end VL
set_option maxRecDepth 100000
namespace VL
open PySem L2
def Tr.sub : Tr → List Nat → Option Tr
  | t, [] => some t
  | .nd .lst ts, k :: ks => ts[k]?.bind fun t => t.sub ks
  | .nd .tup ts, k :: ks => ts[k]?.bind fun t => t.sub ks
  | _, _ :: _ => none
def Tr.put : Tr → List Nat → Tr → Option Tr
  | _, [], s => some s
  | .nd .lst ts, k :: ks, s => ts[k]?.bind fun t => (t.put ks s).map fun t' => .nd .lst (ts.set k t')
  | .nd .tup ts, k :: ks, s => ts[k]?.bind fun t => (t.put ks s).map fun t' => .nd .tup (ts.set k t')
  | _, _ :: _, _ => none
/-- from v by items to u -/
def Walk (H : Hp) : V → List Nat → V → Prop
  | v, [], u => v = u
  | v, k :: ks, u => ∃ p xs x, v = .ref p ∧ (H p = some (.lst xs) ∨ H p = some (.tup xs)) ∧ xs[k]? = some x ∧ Walk H x ks u
theorem Walk.fn {H : Hp} : ∀ {ks : List Nat} {v u u' : V}, Walk H v ks u → Walk H v ks u' → u = u'
  | [], _, _, _, h, h' => h.symm.trans h'
  | k :: ks, _, _, _, ⟨p, xs, x, e, h1, h2, h3⟩, ⟨p', xs', x', e', h1', h2', h3'⟩ => by
    rw [e] at e'
    cases e'
    have : xs = xs' := by
      rcases h1 with h1 | h1 <;> rcases h1' with h1' | h1' <;> rw [h1] at h1' <;> cases h1' <;> rfl
    subst this
    rw [h2] at h2'
    cases h2'
    exact Walk.fn h3 h3'
abbrev PM := Tr → Env → Option (Out (List Nat))
def SP (C : Cc) (W : WX) (i : Nat) (tp : TE) (pm : PM) : Prop := ∀ π env σ w Q t v0 as, Mt C ((i, v0) :: π) env σ w → TOk C w.G w.H t v0 as → Hid w as →
  Post C W ((i, v0) :: π) σ w (pm t env) (fun w' js u => Walk w'.H v0 js u ∧ ∃ s, t.sub js = some s) Q → tp σ w.H Q
end VL
set_option maxRecDepth 100000
namespace VL
open PySem L2
end VL
set_option maxRecDepth 100000
namespace VL
open PySem L2
end VL
set_option maxRecDepth 100000
namespace VL
open PySem L2 PySem.Spec PyProof.Rows
end VL
set_option maxRecDepth 100000
namespace VL
open PySem L2
end VL
set_option maxRecDepth 100000
namespace VL
open PySem L2
end VL
set_option maxRecDepth 100000
namespace VL
open PySem L2 PySem.Spec PyProof.Rows
/-- a method of a text, of one argument -/
def fM1 (op : Str → PyData → Option B) (fx fa : FE) : FE := fun e => bnd (fx e) fun o1 e1 => match res e1 o1 with
  | some (.str a) => bnd (fa e1) fun o2 e2 => (res e2 o2).bind fun y => (op a y).bind fun z => some (.ok (.b z) e2)
  | _ => none
def MtsV (X : Cx) (ρ : Nat → Res) (id : String) (op : Str → PyData → Option B) : Prop := ∃ r, MtR X id r ∧
  ∀ π e σ w a y dy z Q, Mt (cc X ρ) π e σ w → Rq X.K w.G w.H y dy → op a dy = some z → (∀ v w', Mt (cc X ρ) π e σ w' → Frm w w' → OOk (cc X ρ) σ w w' (.b z) v → Q v w'.H) → r (.str a) [y] w.H Q
theorem se_m1 {C : Cc} {W : WX} {fx fa : FE} {r : V → List V → Hp → VK → Prop} {op : Str → PyData → Option B} {to te : TE} (hr : ∀ π e σ w a y dy z Q, Mt C π e σ w → Rq C.K w.G w.H y dy → op a dy = some z → (∀ v w', Mt C π e σ w' → Frm w w' → OOk C σ w w' (.b z) v → Q v w'.H) → r (.str a) [y] w.H Q)
    (ho : SE C W to fx) (ha : SE C W te fa) : SE C W (tM1 r to te) (fM1 op fx fa) := fun π e σ w Q m h => by
  refine ho π e σ w _ m (h.bnd fun o1 e1 v1 w1 m1 f1 k1 h1 => ?_)
  have h2 := h1.from f1
  split at h2
  · rename_i a q
    have rq := res_sound m1 k1 q
    cases rq
    refine ⟨⟨a, rfl⟩, ha π e1 σ w1 _ m1 (h2.bnd fun o2 e2 v2 w2 m2 f2 k2 h3 => ?_)⟩
    have h4 := h3.from f2
    cases q2 : res e2 o2 with
    | none => rw [q2] at h4; exact h4.elim
    | some y =>
      rw [q2] at h4
      simp only [Option.bind_some] at h4
      cases q3 : op a y with
      | none => rw [q3] at h4; exact h4.elim
      | some z =>
        rw [q3] at h4
        exact hr π e2 σ w2 a v2 y z Q m2 (res_sound m2 k2 q2) q3 fun v w' m' f' k' => h4 v w' m' f' (k'.base (f1.trans f2))
  · exact h2.elim
section
variable {X : Cx} {ρ : Nat → Res} {W : WX} {o a : Expr} {pos p apos : Pos} {fx fa : FE}
theorem ve_m1 {id : String} {name : Str} {op : Str → PyData → Option B} (hm : MtsV X ρ id op) (slot : Slot "str" name id) (ty : typeOf (.builtin id) = pure (.type "method_descriptor")) (ho : VE X ρ W o fx) (ha : VE X ρ W a fa)
    (hs : starEach [a] X.env = [(false, eval a X.env)] := by rfl) (hbase : attributeBase o name X.env (eval o X.env) = eval o X.env := by rfl) (hline : (apos.endLine == pos.line) = true := by rfl) :
    VE X ρ W (.Call (.Attribute o name apos) [a] [] pos) (fM1 op fx fa) := by
  obtain ⟨r, h1, h2⟩ := hm
  obtain ⟨t0, p0, s0⟩ := ho
  obtain ⟨t1, p1, s1⟩ := ha
  exact ⟨_, pe_m1 slot ty h1 p0 p1 hs hbase hline, se_m1 h2 s0 s1⟩
end
def asStrs : List PyData → Option (List Str)
  | [] => some []
  | .str x :: ds => (asStrs ds).map (x :: ·)
  | _ => none
theorem strs_vs {K : PySem.W.Frag} {G : Hp} : ∀ {ds : List PyData} {ys : List Str} {xs : List V}, asStrs ds = some ys → RpAll K G xs ds → xs = ys.map V.str
  | [], ns, xs, h, r => by cases h; cases r; rfl
  | .str b :: ds, ns, xs, h, r => by
    unfold asStrs at h
    obtain ⟨ms, h2, rfl⟩ := Option.map_eq_some_iff.mp h
    cases r with
    | cons r1 r2 =>
      cases r1
      rw [strs_vs h2 r2]
      rfl
  | .none :: ds, ns, xs, h, r => by cases h
  | .int _ :: ds, ns, xs, h, r => by cases h
  | .bool _ :: ds, ns, xs, h, r => by cases h
  | .list _ :: ds, ns, xs, h, r => by cases h
  | .tuple _ :: ds, ns, xs, h, r => by cases h
  | .dict _ :: ds, ns, xs, h, r => by cases h
def mJoin (a : Str) : PyData → Option B
  | .list ds => (asStrs ds).bind fun ys => if (ys.map (·.length)).sum + ys.length * a.length ≤ big then some (.fr (.str (Str.join a ys))) else none
  | _ => none
theorem v_join {X : Cx} {ρ : Nat → Res} : MtsV X ρ "str.join" mJoin := by
  refine ⟨_, mt_join, fun π e σ w a y dy z Q m hy hz k => ?_⟩
  unfold mJoin at hz
  split at hz
  · rename_i ds
    cases q : asStrs ds with
    | none => rw [q] at hz; cases hz
    | some ys =>
      rw [q] at hz
      simp only [Option.bind_some] at hz
      split at hz
      · rename_i hb
        cases hz
        obtain ⟨p, xs, rfl, hp, rp⟩ := hy
        have e := strs_vs q rp
        subst e
        have hb2 : big = 1000000 := rfl
        refine ⟨a, p, ys, rfl, rfl, .inl (.of hp), by omega, ?_⟩
        rw [TL.join_eq]
        exact sc_end m k (.str _)
      · cases hz
  · cases hz
def mSplit (a : Str) : PyData → Option B
  | .str b => if (b.length == 0) = false ∧ a.length + 2 ≤ big then some (.ow ((Txt.split a b).map .str)) else none
  | _ => none
theorem rp_strs {K : PySem.W.Frag} {G : Hp} : ∀ ys : List Str, RpAll K G (ys.map V.str) (ys.map PyData.str)
  | [] => .nil
  | y :: ys => .cons (.str y) (rp_strs ys)
theorem v_split {X : Cx} {ρ : Nat → Res} : MtsV X ρ "str.split" mSplit := by
  refine ⟨_, mt_split, fun π e σ w a y dy z Q m hy hz k => ?_⟩
  unfold mSplit at hz
  split at hz
  · rename_i b
    split at hz
    · rename_i hb
      cases hz
      cases hy
      refine ⟨a, b, rfl, rfl, hb.1, le_big hb.2, fun p hp => ?_⟩
      obtain ⟨m5, f5, k5⟩ := mk_lst m hp (rp_strs (Txt.split a b))
      exact k _ _ m5 f5 k5
    · cases hz
  · cases hz
def gIntS : List PyData → Option B
  | [.str a] => if a.length ≤ 640 then (PySem.intText? a).map fun n => .fr (.int n) else none
  | _ => none
theorem v_intS {X : Cx} {ρ : Nat → Res} : CallV X ρ (.type "int") gIntS := by
  refine ⟨_, call_int_str, fun π e σ w xs ds z Q m hx hz k => ?_⟩
  unfold gIntS at hz
  split at hz
  · rename_i a
    split at hz
    · rename_i hb
      cases q : PySem.intText? a with
      | none => rw [q] at hz; cases hz
      | some n =>
        rw [q] at hz
        cases hz
        cases hx with
        | cons r t =>
          cases t
          cases r
          exact ⟨a, n, rfl, q, hb, sc_end m k (.int _)⟩
    · cases hz
  · cases hz
/-- a text of the module -/
theorem ve_gstr {X : Cx} {ρ : Nat → Res} {W : WX} {pos : Pos} {x : Str} {i : Str} (hm : ∃ t, X.mg x = some (.str i t)) (hg : Gl X x := by rfl) (hd : (x == ("__debug__" : Str)) = false := by decide) : VE X ρ W (.Name x pos) (fC (.str i)) := by
  obtain ⟨t, h⟩ := hm
  exact ve_glob h (v := .str i) ⟨t, rfl⟩ (fun _ => .str i) hg hd
end VL
set_option maxRecDepth 100000
namespace VL
open PySem L2
end VL
set_option maxRecDepth 100000
namespace VL
open PySem L2
section
variable {C : Cc} {W : WX} {pn : List Nat} {tt : TT} {te : TE} {ft : FT} {fe : FE} {i j h : Nat}
theorem Mt.swap {C : Cc} {π : List (Nat × V)} {a b : Nat × V} {e : Env} {σ : St} {w : WS} (m : Mt C (a :: b :: π) e σ w) : Mt C (b :: a :: π) e σ w := ⟨m.len, m.sub, m.bok, m.non, m.dis, fun q hq => m.pin q (by
  rcases List.mem_cons.mp hq with rfl | hq
  · exact List.mem_cons_of_mem _ List.mem_cons_self
  · rcases List.mem_cons.mp hq with rfl | hq
    · exact List.mem_cons_self
    · exact List.mem_cons_of_mem _ (List.mem_cons_of_mem _ hq))⟩
theorem Rws.tok {C : Cc} {w0 w : WS} {p : Addr} {xs : List V} {us ts : List Tr} {k : Nat} {as1 as2 : List Addr} (r : Rws C w0 w p xs us ts k as1 as2) : TOk C w.G w.H (.nd .lst (us ++ ts)) (.ref p) (p :: (as1 ++ as2)) := by
  refine .lst (r.hid.g p List.mem_cons_self) r.at_ ?_
  have := r.a1.append r.a2
  rwa [List.take_append_drop] at this
end
end VL
set_option maxRecDepth 100000
namespace VL
open PySem L2
def keqL : List PyData → List PyData → Bool
  | [], [] => true
  | a :: as, b :: bs => keq a b && keqL as bs
  | _, _ => false
def keqT : PyData → PyData → Bool
  | .tuple as, .tuple bs => keqL as bs
  | _, _ => false
def kPT (k : List Key) : PyData := .tuple (k.map kP)
theorem keqL_kP : ∀ a b : List Key, keqL (a.map kP) (b.map kP) = decide (a = b)
  | [], [] => rfl
  | [], _ :: _ => rfl
  | _ :: _, [] => rfl
  | a :: as, b :: bs => by
    show (keq (kP a) (kP b) && keqL (as.map kP) (bs.map kP)) = _
    rw [keq_kP, keqL_kP, ← Bool.decide_and]
    exact decide_eq_decide.mpr (by simp)
theorem keqT_kP (a b : List Key) : keqT (kPT a) (kPT b) = decide (a = b) := keqL_kP a b
def putDT (ds : DKv) (k v : PyData) : DKv := if (ds.any fun p => keqT p.1 k) = true then ds.map (fun p => if keqT p.1 k = true then (p.1, v) else p) else ds ++ [(k, v)]
inductive RpDT (K : PySem.W.Frag) (G : Hp) : List (List Key × V) → DKv → Prop
  | nil : RpDT K G [] []
  | cons {k : List Key} {v : V} {d : PyData} {ks : List (List Key × V)} {ds : DKv} : Rp K G v d → RpDT K G ks ds → RpDT K G ((k, v) :: ks) ((kPT k, d) :: ds)
section
variable {K : PySem.W.Frag} {G : Hp}
theorem RpDT.length : ∀ {ks : List (List Key × V)} {ds : DKv}, RpDT K G ks ds → ks.length = ds.length
  | _, _, .nil => rfl
  | _, _, .cons _ t => by rw [List.length_cons, List.length_cons, t.length]
theorem RpDT.mono {G' : Hp} (e : Same G G') : ∀ {ks : List (List Key × V)} {ds : DKv}, RpDT K G ks ds → RpDT K G' ks ds
  | _, _, .nil => .nil
  | _, _, .cons r t => .cons (r.mono e) (t.mono e)
theorem RpDT.append : ∀ {ks ls : List (List Key × V)} {ds es : DKv}, RpDT K G ks ds → RpDT K G ls es → RpDT K G (ks ++ ls) (ds ++ es)
  | _, _, _, _, .nil, t => t
  | _, _, _, _, .cons r t, u => .cons r (t.append u)
theorem RpDT.any : ∀ {ks : List (List Key × V)} {ds : DKv}, RpDT K G ks ds → ∀ k : List Key, (ks.any fun p => decide (p.1 = k)) = ds.any fun p => keqT p.1 (kPT k)
  | _, _, .nil, k => rfl
  | _, _, .cons (k := a) r t, k => by rw [List.any_cons, List.any_cons, keqT_kP, t.any k]
theorem RpDT.over {v : V} {d : PyData} (k : List Key) (r : Rp K G v d) : ∀ {ks : List (List Key × V)} {ds : DKv}, RpDT K G ks ds → RpDT K G (ks.map (fun kv => if kv.1 = k then (kv.1, v) else kv)) (ds.map fun p => if keqT p.1 (kPT k) = true then (p.1, d) else p)
  | _, _, .nil => .nil
  | _, _, .cons (k := a) r1 t => by
    rw [List.map_cons, List.map_cons, keqT_kP]
    by_cases q : a = k
    · rw [if_pos q, if_pos (decide_eq_true q)]
      exact .cons r (RpDT.over k r t)
    · rw [if_neg q, if_neg (by rw [decide_eq_false q]; decide)]
      exact .cons r1 (RpDT.over k r t)
theorem RpDT.put {ks : List (List Key × V)} {ds : DKv} {v : V} {d : PyData} (h : RpDT K G ks ds) (k : List Key) (r : Rp K G v d) : RpDT K G (putK ks k v) (putDT ds (kPT k) d) := by
  unfold putK putDT
  rw [h.any k]
  split
  · exact h.over k r
  · exact h.append (.cons r .nil)
end
end VL
set_option maxRecDepth 100000
namespace VL
open PySem L2 PySem.Spec PyProof.Rows
end VL
set_option maxRecDepth 100000
namespace VL
open PySem L2 PySem.Spec PyProof.Rows PySem.Calls
end VL
set_option maxRecDepth 100000
namespace VL
open PySem L2
theorem PostS.pin {C : Cc} {W : WX} {π : List (Nat × V)} {q : Nat × V} {w : WS} {r : Option SO} {D : Ends} (h : PostS C W π w r D) : PostS C W (q :: π) w r D := by
  cases r with
  | none => exact h
  | some x =>
    cases x with
    | nx e => exact fun σ' w' m f => h σ' w' m.unpin f
    | rt b e => exact fun v σ' w' m f k => h v σ' w' m.unpin f k
    | bk e => exact fun σ' w' m f => h σ' w' m.unpin f
    | ct e => exact fun σ' w' m f => h σ' w' m.unpin f
    | ex c e => exact fun σ' w' A hA m f => h σ' w' A hA m.unpin f
end VL
set_option maxRecDepth 100000
namespace VL
open PySem L2 PySem.Spec PyProof.Rows
end VL
set_option maxRecDepth 100000
namespace VL
open PySem PySem.Spec PyProof.Rows PySem.Calls PySem.SeqAt
end VL
set_option maxRecDepth 100000
namespace VL
open PySem L2 PySem.Spec PyProof.Rows
open PySem.W (alike dataLt)
open PySem.SeqAt (shaped)
end VL
set_option maxRecDepth 100000
namespace VP
open PySem L2 VL
def h__law_draw : Fn := drawF
/-- 0: thing -/
def b_is_whole : FS :=
  (sRetO (fAndV (fIsi .int (fVar 0)) (fNotV (fIsi .bool (fVar 0)))))
def h_is_whole : Fn := runF b_is_whole 1
/-- 0: thing, 1: one -/
def b_is_order : FS :=
  (sSeq (sIf (tOr (tNot (fTest (fIsi .list (fVar 0)))) (tNot (fTest (fChain oLe oLe (fC (.int 1)) (fCB gLen (aCons (fVar 0) aNil)) (fC (.int 12)))))) (sRetO (fC (.bool false))) sNil)
  (sSeq (sIf (fTest (fBin oNe (fLc (iSeq (fVar 0)) (gN 1) (tNot (fTest (fCallP h_is_whole 1 (aP (fVar 1) aNil)))) (fVar 1) [1]) (fLst dNil))) (sRetO (fC (.bool false))) sNil)
  (sRetO (fBin oEq (fCB gSorted (aCons (fVar 0) aNil)) (fListRg1 (fCB gLen (aCons (fVar 0) aNil)))))))
def h_is_order : Fn := runF b_is_order 2
/-- 0: deck, 1: n, 2: left, 3: way, 4: k, 5: p -/
def b__law_order : FS :=
  (sSeq (sOwn 2 (fListRg1 (fVar 1)))
  (sSeq (sAsg 3 (fCall h__law_draw 2 [(0, 0)] (aM 0 (aF (fC (.int 4)) aNil))))
  (sSeq (sIf (fTest (fBin oEq (fVar 3) (fC (.int 0)))) (sRetO (fLc (iRange1 (fVar 1)) (gN 4) tTrue (fMth 2 mPop (dCons (fCall h__law_draw 2 [(0, 0)] (aM 0 (aF (fCB gLen (aCons (fVar 2) aNil)) aNil))) dNil)) [4])) sNil)
  (sSeq (sIf (fTest (fBin oEq (fVar 3) (fC (.int 1)))) (sOwn 2 (fUn oRev (fVar 2))) sNil)
  (sSeq (sFor (iRange1 (fBin oMul (fCall h__law_draw 2 [(0, 0)] (aM 0 (aF (fC (.int 7)) aNil))) (fCB gInt (aCons (fBin oGt (fVar 1) (fC (.int 1))) aNil)))) (gN 4) (sSeq (sAsg 5 (fCall h__law_draw 2 [(0, 0)] (aM 0 (aF (fBin oSub (fVar 1) (fC (.int 1))) aNil))))
  (sPut2 2 (fVar 5) 2 (fBin oAdd (fVar 5) (fC (.int 1))) (dCons (fBin oIx (fVar 2) (fBin oAdd (fVar 5) (fC (.int 1)))) (dCons (fBin oIx (fVar 2) (fVar 5)) dNil)))) [4, 5])
  (sRetO (fVar 2)))))))
def h__law_order : Fn := runF b__law_order 6
end VP
set_option maxRecDepth 100000
namespace VP
open PySem L2 VL
end VP
set_option maxRecDepth 100000
namespace VP
open PySem L2 VL
end VP
set_option maxRecDepth 100000
namespace VP
open PySem L2 VL
end VP
set_option maxRecDepth 100000
namespace VP
open PySem L2 VL
end VP
set_option maxRecDepth 100000
namespace VP
open PySem L2 VL
end VP
set_option maxRecDepth 100000
namespace VL
open PySem L2
/-- keeps simp from computing in the kernel -/
theorem tr {α : Sort u} {a b : α} (h : a = b) : a = b := h
section
variable {α β : Type} {a : α} {e e1 : VL.Env} {x : Option B} {i : Nat} {b : B} {d : PyData} {c : Str}
@[simp] theorem x_bnd_ok {k : α → VL.Env → Option (Out β)} : bnd (some (.ok a e)) k = k a e := rfl
@[simp] theorem x_bnd_ex {k : α → VL.Env → Option (Out β)} : bnd (some (.ex c e)) k = some (.ex c e) := rfl
@[simp] theorem x_bndS_ok {k : α → VL.Env → Option SO} : bndS (some (.ok a e)) k = k a e := rfl
@[simp] theorem x_bndS_ex {k : α → VL.Env → Option SO} : bndS (some (.ex c e)) k = some (.ex c e) := rfl
@[simp] theorem x_at0 : at? (x :: e) 0 = x := rfl
@[simp] theorem x_at1 : at? (x :: e) (i + 1) = at? e i := rfl
@[simp] theorem x_dat1 : (B.fr d).dat = some d := rfl
@[simp] theorem x_dat2 {ds : List PyData} : (B.ow ds).dat = some (.list ds) := rfl
@[simp] theorem x_dat3 {ds : List (PyData × PyData)} : (B.od ds).dat = some (.dict ds) := rfl
@[simp] theorem x_dat4 : (B.ex c).dat = none := rfl
@[simp] theorem x_dat5 {ns : List Int} : (B.sc ns).dat = none := rfl
@[simp] theorem x_dat6 {k : Nat} : (B.rs k d).dat = none := rfl
@[simp] theorem x_res_s : res e (.s i) = (at? e i).bind B.dat := rfl
@[simp] theorem x_res_b : res e (.b b) = b.dat := rfl
@[simp] theorem x_fz_fr : fz e (.b (.fr d)) = some (d, e) := rfl
@[simp] theorem x_fz_ow {ds : List PyData} : fz e (.b (.ow ds)) = some (.list ds, e) := rfl
@[simp] theorem x_fz_od {ds : List (PyData × PyData)} : fz e (.b (.od ds)) = some (.dict ds, e) := rfl
@[simp] theorem x_fz_s : fz e (.s i) = match at? e i with
    | some (.fr d) => some (d, e)
    | some (.ow ds) => some (.list ds, e.set i (some (.fr (.list ds))))
    | some (.od kvs) => some (.dict kvs, e.set i (some (.fr (.dict kvs))))
    | some (.tr t) => t.dat.map fun d => (d, e.set i (some (.fr d)))
    | _ => none := rfl
@[simp] theorem x_fzB_fr : fzB e (.b (.fr d)) = some (.fr d, e) := rfl
@[simp] theorem x_fzB_ow {ds : List PyData} : fzB e (.b (.ow ds)) = some (.fr (.list ds), e) := rfl
@[simp] theorem x_fzB_od {ds : List (PyData × PyData)} : fzB e (.b (.od ds)) = some (.fr (.dict ds), e) := rfl
@[simp] theorem x_fzB_ex : fzB e (.b (.ex c)) = some (.ex c, e) := rfl
@[simp] theorem x_fzB_sc {ns : List Int} : fzB e (.b (.sc ns)) = some (.sc ns, e) := rfl
@[simp] theorem x_fzB_s : fzB e (.s i) = match at? e i with
    | some (.ex c) => some (.ex c, e)
    | some (.sc ns) => some (.sc ns, e)
    | _ => (fz e (.s i)).map fun p => (.fr p.1, p.2) := rfl
@[simp] theorem x_okD : okD d e = some (.ok (.b (.fr d)) e) := tr rfl
@[simp] theorem x_fVar : fVar i e = match at? e i with
  | some _ => some (.ok (.s i) e)
  | none => none := tr rfl
@[simp] theorem x_fC : fC d e = some (.ok (.b (.fr d)) e) := tr rfl
@[simp] theorem x_fBin {op : PyData → PyData → Option B} {fa fb : FE} : fBin op fa fb e = bnd (fa e) fun o1 e1 => bnd (fb e1) fun o2 e2 => (res e2 o1).bind fun x => (res e2 o2).bind fun y => (op x y).bind fun z => some (.ok (.b z) e2) := tr rfl
@[simp] theorem x_fUn {op : PyData → Option B} {fa : FE} : fUn op fa e = bnd (fa e) fun o1 e1 => (res e1 o1).bind fun x => (op x).bind fun z => some (.ok (.b z) e1) := tr rfl
@[simp] theorem x_dNil : dNil e = some (.ok [] e) := tr rfl
@[simp] theorem x_dCons {f : FE} {r : FD} : dCons f r e = bnd (f e) fun o e1 => (fz e1 o).bind fun p => bnd (r p.2) fun ds e2 => some (.ok (p.1 :: ds) e2) := tr rfl
@[simp] theorem x_fLst {r : FD} : fLst r e = bnd (r e) fun ds e1 => if ds.length ≤ 1000 then some (.ok (.b (.ow ds)) e1) else none := tr rfl
@[simp] theorem x_fTup {r : FD} : fTup r e = bnd (r e) fun ds e1 => if ds.length ≤ 1000 then some (.ok (.b (.fr (.tuple ds))) e1) else none := tr rfl
@[simp] theorem x_fTest {f : FE} : fTest f e = bnd (f e) fun o e1 => match res e1 o with
  | some (.bool b) => some (.ok b e1)
  | _ => none := tr rfl
@[simp] theorem x_fIf {t : FT} {fa fb : FE} : fIf t fa fb e = bnd (t e) fun b e1 => match b with
  | true => fa e1
  | false => fb e1 := tr rfl
@[simp] theorem x_tAnd {t u : FT} : tAnd t u e = bnd (t e) fun b e1 => match b with
  | true => u e1
  | false => some (.ok false e1) := tr rfl
@[simp] theorem x_tOr {t u : FT} : tOr t u e = bnd (t e) fun b e1 => match b with
  | true => some (.ok true e1)
  | false => u e1 := tr rfl
@[simp] theorem x_tNot {t : FT} : tNot t e = bnd (t e) fun b e1 => some (.ok (!b) e1) := tr rfl
@[simp] theorem x_sSeq {f g : FS} : sSeq f g e = match f e with
  | some (.nx e1) => g e1
  | r => r := tr rfl
@[simp] theorem x_sExpr {f : FE} : sExpr f e = bndS (f e) fun _ e1 => some (.nx e1) := tr rfl
@[simp] theorem x_sAsg {f : FE} : sAsg i f e = bndS (f e) fun o e1 => (fzB e1 o).bind fun p => some (.nx (p.2.set i (some p.1))) := tr rfl
@[simp] theorem x_sOwn {f : FE} : sOwn i f e = bndS (f e) fun o e1 => match o with
  | .b b => some (.nx (e1.set i (some b)))
  | .s _ => none := tr rfl
@[simp] theorem x_sRetO {f : FE} : sRetO f e = bndS (f e) fun o e1 => match o with
  | .b b => some (.rt b e1)
  | .s i => (at? e1 i).bind fun b => some (.rt b (e1.set i none)) := tr rfl
@[simp] theorem x_sRetN : sRetN e = some (.rt (.fr .none) e) := tr rfl
@[simp] theorem x_sNil : sNil e = some (.nx e) := tr rfl
@[simp] theorem x_sRaise : sRaise c e = some (.ex c e) := tr rfl
@[simp] theorem x_sBrk : sBrk e = some (.bk e) := tr rfl
@[simp] theorem x_sIf {t : FT} {f g : FS} : sIf t f g e = bndS (t e) fun b e1 => match b with
  | true => f e1
  | false => g e1 := tr rfl
@[simp] theorem x_aNil : aNil e = some (.ok [] e) := tr rfl
@[simp] theorem x_aCons {f : FE} {r : FA} : aCons f r e = bnd (f e) fun o e1 => bnd (r e1) fun os e2 => some (.ok (o :: os) e2) := tr rfl
@[simp] theorem x_resAll0 : resAll e [] = some [] := rfl
@[simp] theorem x_resAll1 {o : O} {os : List O} : resAll e (o :: os) = (res e o).bind fun d => (resAll e os).bind fun ds => some (d :: ds) := rfl
@[simp] theorem x_fCB {g : List PyData → Option B} {fa : FA} : fCB g fa e = bnd (fa e) fun os e1 => (resAll e1 os).bind fun ds => (g ds).bind fun z => some (.ok (.b z) e1) := tr rfl
@[simp] theorem x_fIsi {T : Ty} {fa : FE} : fIsi T fa e = bnd (fa e) fun o e1 => (res e1 o).bind fun d => okD (.bool (isD T d)) e1 := tr rfl
@[simp] theorem x_iSeq {f : FE} : iSeq f e = bnd (f e) fun o e1 => (fz e1 o).bind fun p => match p.1 with
  | .list ds => some (.ok ds p.2)
  | _ => none := tr rfl
@[simp] theorem x_sFor {fi : FI} {g : FG} {body : FS} {dead : List Nat} : sFor fi g body dead e = bndS (fi e) fun ds e1 => sForL g body dead ds e1 := tr rfl
@[simp] theorem x_forget0 : forget [] e = e := rfl
@[simp] theorem x_forget1 {vs : List Nat} : forget (i :: vs) e = forget vs (e.set i none) := rfl
@[simp] theorem x_fNotV {fa : FE} : fNotV fa e = bnd (fa e) fun o e1 => match res e1 o with
  | some (.bool b) => okD (.bool (!b)) e1
  | _ => none := tr rfl
@[simp] theorem x_fAndV {fa fb : FE} : fAndV fa fb e = bnd (fa e) fun o e1 => match res e1 o with
  | some (.bool true) => fb e1
  | some (.bool false) => okD (.bool false) e1
  | _ => none := tr rfl
@[simp] theorem x_fOrV {fa fb : FE} : fOrV fa fb e = bnd (fa e) fun o e1 => match res e1 o with
  | some (.bool true) => okD (.bool true) e1
  | some (.bool false) => fb e1
  | _ => none := tr rfl
@[simp] theorem x_fChain {g h : PyData → PyData → Option B} {fa fb fc : FE} : fChain g h fa fb fc e = bnd (fa e) fun o1 e1 => bnd (fb e1) fun o2 e2 =>
  (res e2 o1).bind fun x => (res e2 o2).bind fun y => match g x y with
    | some (.fr (.bool true)) => bnd (fc e2) fun o3 e3 => (res e3 o2).bind fun y' => (res e3 o3).bind fun z => (h y' z).bind fun r => some (.ok (.b r) e3)
    | some (.fr (.bool false)) => some (.ok (.b (.fr (.bool false))) e2)
    | _ => none := tr rfl
@[simp] theorem x_aF {f : FE} {r : FA} : aF f r e = bnd (f e) fun o e1 => (fzB e1 o).bind fun p => bnd (r p.2) fun os e2 => some (.ok (.b p.1 :: os) e2) := tr rfl
@[simp] theorem x_aM {r : FA} : aM i r e = match at? e i with
  | some _ => bnd (r e) fun os e2 => some (.ok (.s i :: os) e2)
  | none => none := tr rfl
@[simp] theorem x_aP {f : FE} {r : FA} : aP f r e = bnd (f e) fun o e1 => match o with
  | .s i => bnd (r e1) fun os e2 => some (.ok (.s i :: os) e2)
  | .b _ => (fzB e1 o).bind fun p => bnd (r p.2) fun os e2 => some (.ok (.b p.1 :: os) e2) := tr rfl
@[simp] theorem x_bindO0 : bindO e [] = some [] := rfl
@[simp] theorem x_bindOb {os : List O} : bindO e (.b b :: os) = (bindO e os).bind fun bs => some (b :: bs) := rfl
@[simp] theorem x_bindOs {os : List O} : bindO e (.s i :: os) = (at? e i).bind fun x => (bindO e os).bind fun bs => some (x :: bs) := rfl
@[simp] theorem x_putBack0 {e2 : VL.Env} : putBack e2 [] e = e := rfl
@[simp] theorem x_putBack1 {e2 : VL.Env} {j : Nat} {r : List (Nat × Nat)} : putBack e2 ((j, i) :: r) e = putBack e2 r (e.set i (at? e2 j)) := rfl
@[simp] theorem x_lendO0 : lendO e [] = some [] := rfl
@[simp] theorem x_lendOb {os : List O} : lendO e (.b b :: os) = (lendO e os).bind fun bs => some (b :: bs) := rfl
@[simp] theorem x_lendOs {os : List O} : lendO e (.s i :: os) = ((at? e i).bind lent).bind fun x => (lendO e os).bind fun bs => some (x :: bs) := rfl
@[simp] theorem x_lent1 : lent (.fr d) = some (.fr d) := rfl
@[simp] theorem x_lent2 {ds : List PyData} : lent (.ow ds) = some (.fr (.list ds)) := rfl
@[simp] theorem x_lent3 {ds : List (PyData × PyData)} : lent (.od ds) = some (.fr (.dict ds)) := rfl
@[simp] theorem x_lent4 : lent (.ex c) = some (.ex c) := rfl
@[simp] theorem x_lent5 {ns : List Int} : lent (.sc ns) = some (.sc ns) := rfl
@[simp] theorem x_flatO0 : flatO [] = true := rfl
@[simp] theorem x_flatOs {os : List O} : flatO (.s i :: os) = flatO os := rfl
@[simp] theorem x_flatO1 {os : List O} : flatO (.b (.fr d) :: os) = flatO os := rfl
@[simp] theorem x_flatO2 {os : List O} : flatO (.b (.ex c) :: os) = flatO os := rfl
@[simp] theorem x_flatO3 {os : List O} {ns : List Int} : flatO (.b (.sc ns) :: os) = flatO os := rfl
@[simp] theorem x_fCallP {F : Fn} {n : Nat} {fa : FA} : fCallP F n fa e = bnd (fa e) fun os e1 => if flatO os = true then (lendO e1 os).bind fun bs => if bs.length = n then match F bs with
  | some (.ret (.fr d) _) => if isFlat d = true then okD d e1 else none
  | some (.ex c _) => some (.ex c e1)
  | _ => none else none else none := tr rfl
@[simp] theorem x_fCall {F : Fn} {n : Nat} {mi : List (Nat × Nat)} {fa : FA} : fCall F n mi fa e = bnd (fa e) fun os e1 => if (slotsOk mi 0 os && miOk mi os && os.length == n) = true then (bindO e1 os).bind fun bs => match F bs with
  | none => none
  | some (.ret b e2) => some (.ok (.b b) (putBack e2 mi e1))
  | some (.ex c e2) => some (.ex c (putBack e2 mi e1)) else none := tr rfl
@[simp] theorem x_slotsOk0 {mi : List (Nat × Nat)} {j : Nat} : slotsOk mi j [] = true := rfl
@[simp] theorem x_slotsOks {mi : List (Nat × Nat)} {j : Nat} {os : List O} : slotsOk mi j (.s i :: os) = (decide ((j, i) ∈ mi) && slotsOk mi (j + 1) os) := rfl
@[simp] theorem x_slotsOk1 {mi : List (Nat × Nat)} {j : Nat} {os : List O} : slotsOk mi j (.b (.fr d) :: os) = slotsOk mi (j + 1) os := rfl
@[simp] theorem x_slotsOk2 {mi : List (Nat × Nat)} {j : Nat} {os : List O} : slotsOk mi j (.b (.ex c) :: os) = slotsOk mi (j + 1) os := rfl
@[simp] theorem x_slotsOk3 {mi : List (Nat × Nat)} {j : Nat} {os : List O} {ns : List Int} : slotsOk mi j (.b (.sc ns) :: os) = slotsOk mi (j + 1) os := rfl
@[simp] theorem x_miOk0 {os : List O} : miOk [] os = true := rfl
@[simp] theorem x_miOk1 {os : List O} {j : Nat} {mi : List (Nat × Nat)} : miOk ((j, i) :: mi) os = ((match os[j]? with
  | some (.s k) => k == i
  | _ => false) && miOk mi os) := rfl
@[simp] theorem x_isFlat1 : isFlat .none = true := rfl
@[simp] theorem x_isFlat2 {b : Bool} : isFlat (.bool b) = true := rfl
@[simp] theorem x_isFlat3 {i : Int} : isFlat (.int i) = true := rfl
@[simp] theorem x_isFlat4 {x : Str} : isFlat (.str x) = true := rfl
@[simp] theorem x_fMth {g : List PyData → List PyData → Option (B × List PyData)} {fd : FD} : fMth i g fd e = match at? e i with
  | some (.ow _) => bnd (fd e) fun as e1 => match at? e1 i with
    | some (.ow ds) => (g ds as).bind fun p => some (.ok (.b p.1) (e1.set i (some (.ow p.2))))
    | _ => none
  | _ => none := tr rfl
@[simp] theorem x_fScLen {fa : FE} : fScLen fa e = bnd (fa e) fun o e1 => match bOf e1 o with
  | some (.sc ns) => okD (.int ns.length) e1
  | _ => none := tr rfl
@[simp] theorem x_fScIx {fa fb : FE} : fScIx fa fb e = bnd (fa e) fun o e1 => bnd (fb e1) fun o2 e2 => match bOf e2 o, res e2 o2 with
  | some (.sc ns), some (.int i) => (atI ns i).bind fun n => okD (.int n) e2
  | _, _ => none := tr rfl
@[simp] theorem x_bOfs : bOf e (.s i) = at? e i := rfl
@[simp] theorem x_bOfb : bOf e (.b b) = some b := rfl
@[simp] theorem x_iRange1 {f : FE} : iRange1 f e = bnd (f e) fun o e1 => match res e1 o with
  | some (.int j) => if lim j = true then some (.ok (rngN 0 j.toNat) e1) else none
  | _ => none := tr rfl
@[simp] theorem x_iRange2 {f g : FE} : iRange2 f g e = bnd (f e) fun o e1 => bnd (g e1) fun o2 e2 => match res e2 o, res e2 o2 with
  | some (.int i), some (.int j) => if lim i = true ∧ lim j = true then some (.ok (rngN i (j - i).toNat) e2) else none
  | _, _ => none := tr rfl
@[simp] theorem x_gN : gN i d e = some (e.set i (some (.fr d))) := tr rfl
@[simp] theorem x_fListRg1 {fa : FE} : fListRg1 fa e = bnd (fa e) fun o e1 => match res e1 o with
  | some (.int j) => if rgOk 0 j = true then some (.ok (.b (.ow (rngN 0 j.toNat))) e1) else none
  | _ => none := tr rfl
@[simp] theorem x_fLc {fi : FI} {g : FG} {t : FT} {f : FE} {vs : List Nat} : fLc fi g t f vs e = bnd (fi e) fun ds e1 => fLcL g t f vs ds [] (forget vs e1) := tr rfl
@[simp] theorem x_tTrue : tTrue e = some (.ok true e) := tr rfl
@[simp] theorem x_sPut2 {fx fy : FE} {j : Nat} {fd : FD} : sPut2 i fx j fy fd e = bndS (fd e) fun ds e1 => match ds with
  | [a, b] => bndS (putAt i fx a e1) fun _ e2 => bndS (putAt j fy b e2) fun _ e3 => some (.nx e3)
  | _ => none := tr rfl
@[simp] theorem x_sPut {fx fv : FE} : sPut i fx fv e = bndS (fv e) fun o e1 => (fz e1 o).bind fun p => bndS (putAt i fx p.1 p.2) fun _ e2 => some (.nx e2) := tr rfl
@[simp] theorem x_putAt {f : FE} : putAt i f d e = match at? e i with
  | none => none
  | some _ => bnd (f e) fun o e1 => match res e1 o, at? e1 i with
    | some (.int k), some (.ow ds) => (ixN ds.length k).bind fun j => some (.ok () (e1.set i (some (.ow (ds.set j d)))))
    | _, _ => none := tr rfl
@[simp] theorem x_sNewP : sNewP i e = some (.nx (e.set i (some (.rs 1 (.list []))))) := tr rfl
@[simp] theorem x_sAppP {fd : FD} : sAppP i fd e = match at? e i with
  | some (.rs 1 _) => bndS (fd e) fun ds e1 => match ds, at? e1 i with
    | [.int a, .int b, .int c], some (.rs 1 (.list l)) => if l.length < big then some (.nx (e1.set i (some (.rs 1 (.list (l ++ [encP (a, b, c)])))))) else none
    | _, _ => none
  | _ => none := tr rfl
@[simp] theorem x_fDeck : fDeck i e = match at? e i with
  | some (.rs 1 (.list l)) => some (.ok (.b (.rs 0 (.list [.list l, .int 0]))) (e.set i none))
  | _ => none := tr rfl
@[simp] theorem x_oAddI {i j : Int} : oAdd (.int i) (.int j) = some (.fr (.int (i + j))) := tr rfl
@[simp] theorem x_opI0 {g : Int → Int → Int} {i j : Int} : opI0 g (.int i) (.int j) = some (.fr (.int (g i j))) := tr rfl
@[simp] theorem x_opB0 {g : Int → Int → Bool} {i j : Int} : opB0 g (.int i) (.int j) = some (.fr (.bool (g i j))) := tr rfl
@[simp] theorem x_opI {C : Int → Int → Bool} {g : Int → Int → Int} {i j : Int} : opI C g (.int i) (.int j) = if C i j = true then some (.fr (.int (g i j))) else none := tr rfl
@[simp] theorem x_oMulI {i j : Int} : oMul (.int i) (.int j) = if cMul i j = true then some (.fr (.int (i * j))) else none := tr rfl
@[simp] theorem x_gInt1 {i : Int} : gInt [.int i] = some (.fr (.int i)) := tr rfl
@[simp] theorem x_gInt2 {b : Bool} : gInt [.bool b] = some (.fr (.int (if b then 1 else 0))) := tr rfl
@[simp] theorem x_gMax2 {i j : Int} : gMax [.int i, .int j] = some (.fr (.int (if j > i then j else i))) := tr rfl
@[simp] theorem x_gMin2 {i j : Int} : gMin [.int i, .int j] = some (.fr (.int (if j < i then j else i))) := tr rfl
@[simp] theorem x_gLenL {ds : List PyData} : gLen [.list ds] = some (.fr (.int ds.length)) := tr rfl
@[simp] theorem x_gListL {ds : List PyData} : gList [.list ds] = some (.ow ds) := tr rfl
@[simp] theorem x_oRevL {ds : List PyData} : oRev (.list ds) = some (.ow ds.reverse) := tr rfl
@[simp] theorem x_oIxL {ds : List PyData} {i : Int} : oIx (.list ds) (.int i) = (atI ds i).map .fr := tr rfl
@[simp] theorem x_oEqI {i j : Int} : oEq (.int i) (.int j) = some (.fr (.bool (decide (i = j)))) := by
  have h : ∀ k : Int, SeqAt.shaped (.int k) = true := fun k => by
    unfold SeqAt.shaped
    rw [PyData.canLay0, PyData.depth]
    rfl
  unfold oEq
  rw [if_pos ⟨h i, h j⟩, PyData.eqv]
  rfl
end
theorem asInts_map : ∀ ns : List Int, asInts (ns.map .int) = some ns
  | [] => rfl
  | n :: ns => by
    show (asInts (ns.map .int)).map (n :: ·) = some (n :: ns)
    rw [asInts_map ns]
    rfl
end VL
set_option maxRecDepth 100000
namespace VL
open PySem L2 PySem.W PySem.SeqAt
class Lay (α : Type) [DecidableEq α] [Datum α] : Prop where
  lay : ∀ a : α, (Datum.toD a).canLay0 = true
  small : Datum.depth α ≤ 64
instance : Lay Int := ⟨fun _ => by show (PyData.int _).canLay0 = true; rw [PyData.canLay0], by decide⟩
instance : Lay Bool := ⟨fun _ => by show (PyData.bool _).canLay0 = true; rw [PyData.canLay0], by decide⟩
theorem layAll {α : Type} [DecidableEq α] [Datum α] [Lay α] : ∀ xs : List α, PyData.canLayAll0 (xs.map Datum.toD) = true
  | [] => rfl
  | x :: xs => by
    rw [List.map_cons, PyData.canLayAll0, Lay.lay x, layAll xs]
    rfl
theorem lay_lst {α : Type} [DecidableEq α] [Datum α] [Lay α] (xs : List α) : (Datum.toD xs).canLay0 = true := by
  show (PyData.list (xs.map Datum.toD)).canLay0 = true
  rw [PyData.canLay0]
  exact layAll xs
instance : Lay (List Int) := ⟨lay_lst, by decide⟩
instance : Lay (List (List Int)) := ⟨lay_lst, by decide⟩
instance : Lay (List (List (List Int))) := ⟨lay_lst, by decide⟩
instance : Lay (List Bool) := ⟨lay_lst, by decide⟩
section
variable {α : Type} [DecidableEq α] [Datum α] [Lay α]
theorem shaped_toD (a : α) : shaped (Datum.toD a) = true := by
  unfold shaped
  rw [Lay.lay a, decide_eq_true (Nat.le_trans (Datum.depth_le a) Lay.small)]
  rfl
theorem o_eq (a b : α) : oEq (Datum.toD a) (Datum.toD b) = some (.fr (.bool (decide (a = b)))) := by
  unfold oEq
  rw [if_pos ⟨shaped_toD a, shaped_toD b⟩, Datum.eqv]
theorem o_ne (a b : α) : oNe (Datum.toD a) (Datum.toD b) = some (.fr (.bool (!decide (a = b)))) := by
  unfold oNe
  rw [if_pos ⟨shaped_toD a, shaped_toD b⟩, Datum.eqv]
end
end VL
set_option maxRecDepth 100000
namespace VP
open PySem L2 VL PySem.W PySem.SeqAt
/-- the numbers from 0 on -/
def iota (n : Nat) : List Int := (List.range n).map fun (i : Nat) => (i : Int)
/-- just the numbers from 0 on -/
def IsOrd (n : Nat) (xs : List Int) : Prop := xs.Perm (iota n)
theorem IsOrd.length {n : Nat} {xs : List Int} (h : IsOrd n xs) : xs.length = n := by
  rw [List.Perm.length_eq h, iota, List.length_map, List.length_range]
theorem sort_ord {n : Nat} {xs : List Int} (h : IsOrd n xs) : xs.mergeSort leI = iota n := by
  have trans : ∀ a b c : Int, leI a b = true → leI b c = true → leI a c = true := fun a b c h1 h2 => decide_eq_true (Int.le_trans (of_decide_eq_true h1) (of_decide_eq_true h2))
  have total : ∀ a b : Int, (leI a b || leI b a) = true := fun a b => by
    unfold leI
    rw [Bool.or_eq_true, decide_eq_true_eq, decide_eq_true_eq]
    exact Int.le_total a b
  have s1 := List.pairwise_mergeSort trans total xs
  have p1 : (xs.mergeSort leI).Perm (iota n) := (List.mergeSort_perm xs leI).trans h
  have s2 : (iota n).Pairwise fun a b => leI a b = true := by
    unfold iota
    rw [List.pairwise_map]
    exact (List.pairwise_lt_range).imp fun {a b} hab => decide_eq_true (by omega)
  exact p1.eq_of_pairwise (fun a b _ _ h1 h2 => Int.le_antisymm (of_decide_eq_true h1) (of_decide_eq_true h2)) s1 s2
end VP
set_option maxRecDepth 100000
namespace VP
open PySem L2 VL PySem.W PySem.SeqAt
end VP
set_option maxRecDepth 100000
namespace VP
open PySem L2 VL PySem.W PySem.SeqAt
theorem ixN_of {n : Nat} {i : Int} (h0 : 0 ≤ i) (h1 : i < n) : ixN n i = some i.toNat := by
  unfold ixN
  rw [if_pos h0, if_pos h1]
theorem swap_perm {xs : List Int} {p q : Nat} (hp : p < xs.length) (hq : q < xs.length) : ((xs.set p xs[q]).set q xs[p]).Perm xs := List.set_set_perm hp hq
end VP
set_option maxRecDepth 100000
namespace VP
open PySem L2 VL PySem.W PySem.SeqAt
theorem map_erase {α β : Type} (f : α → β) : ∀ (xs : List α) (j : Nat), (xs.map f).eraseIdx j = (xs.eraseIdx j).map f
  | [], _ => rfl
  | x :: xs, 0 => rfl
  | x :: xs, j + 1 => by
    show f x :: (xs.map f).eraseIdx j = f x :: (xs.eraseIdx j).map f
    rw [map_erase f xs j]
theorem erase_perm : ∀ {xs : List Int} {j : Nat} (hj : j < xs.length), (xs[j] :: xs.eraseIdx j).Perm xs
  | [], j, hj => by simp at hj
  | x :: xs, 0, _ => List.Perm.refl _
  | x :: xs, j + 1, hj => by
    have ih := erase_perm (xs := xs) (j := j) (by simpa using hj)
    exact (List.Perm.swap x (xs[j]'(by simpa using hj)) (xs.eraseIdx j)).trans (ih.cons x)
end VP
set_option maxRecDepth 100000
namespace TM
open PySem L2 VL PySem.W PySem.SeqAt
inductive R (α : Type) where
  | no
  | ok (a : α)
  | ex (c : Str)
def R.bind {α β : Type} (m : R α) (k : α → R β) : R β := match m with
  | .no => .no
  | .ok a => k a
  | .ex c => .ex c
def ob {α β : Type} (m : Option α) (k : α → R β) : R β := match m with
  | none => .no
  | some a => k a
@[simp] theorem bind_ok {α β : Type} {a : α} {k : α → R β} : (R.ok a).bind k = k a := rfl
@[simp] theorem bind_no {α β : Type} {k : α → R β} : (R.no : R α).bind k = .no := rfl
@[simp] theorem bind_ex {α β : Type} {c : Str} {k : α → R β} : (R.ex c : R α).bind k = .ex c := rfl
@[simp] theorem ob_some {α β : Type} {a : α} {k : α → R β} : ob (some a) k = k a := rfl
@[simp] theorem ob_none {α β : Type} {k : α → R β} : ob (none : Option α) k = .no := rfl
theorem bind_assoc {α β γ : Type} (m : R α) (k : α → R β) (l : β → R γ) : (m.bind k).bind l = m.bind fun a => (k a).bind l := by cases m <;> rfl
/-- a list or dict of its own, by its data -/
def bow : PyData → B
  | .list ds => .ow ds
  | .dict ks => .od ks
  | x => .fr x
theorem bow_dat (x : PyData) : (bow x).dat = some x := by cases x <;> rfl
/-- what a slot is known to hold -/
inductive Sl where
  | d (x : PyData)
  | o (x : PyData)
  | rs (k : Nat) (x : PyData)
  | ex (c : Str)
  | sc (ns : List Int)
  | xo (o : Option Str)
  | t (x : Tr)
/-- None, or an error that is held -/
def xB : Option Str → B
  | none => .fr .none
  | some c => .ex c
def Sl.ok : Sl → Option B → Prop
  | .d x, b => b.bind B.dat = some x
  | .o x, b => b = some (bow x)
  | .rs k x, b => b = some (.rs k x)
  | .ex c, b => b = some (.ex c)
  | .sc ns, b => b = some (.sc ns)
  | .xo q, b => b = some (xB q)
  | .t x, b => b = some (.tr x)
abbrev Ctx := List (Option Sl)
structure Cov (Γ : Ctx) (e : VL.Env) : Prop where
  len : e.length = Γ.length
  hold : ∀ (i : Nat) (s : Sl), Γ[i]? = some (some s) → s.ok (at? e i)
/-- how a block may end -/
inductive PO where
  | nx (Γ : Ctx)
  | rt (s : Sl) (Γ : Ctx)
  | fn (Γ : Ctx)
  | bk (Γ : Ctx)
def PO.ok : PO → SO → Prop
  | .nx Γ, w => ∃ e, w = .nx e ∧ Cov Γ e
  | .rt s Γ, w => ∃ b e, w = .rt b e ∧ s.ok (some b) ∧ Cov Γ e
  | .fn Γ, w => ∃ e, (w = .nx e ∨ w = .rt (.fr .none) e) ∧ Cov Γ e
  | .bk Γ, w => ∃ e, w = .bk e ∧ Cov Γ e
abbrev KC := VL.Env → Option SO
def J (Γ : Ctx) (C : KC) {α : Type} (m : R α) (po : α → PO) : Prop := ∀ e, Cov Γ e → match m with
  | .no => True
  | .ok a => ∃ w, C e = some w ∧ (po a).ok w
  | .ex c => ∃ e', C e = some (.ex c e')
theorem J.to {Γ Γ' : Ctx} {C C' : KC} {α : Type} {m : R α} {po : α → PO} (h : J Γ' C' m po) (k : ∀ e, Cov Γ e → ∃ e', Cov Γ' e' ∧ C e = C' e') : J Γ C m po := fun e he => by
  obtain ⟨e', h1, h2⟩ := k e he
  rw [h2]
  exact h e' h1
theorem J.eq {Γ : Ctx} {C C' : KC} {α : Type} {m : R α} {po : α → PO} (h : J Γ C' m po) (k : C = C') : J Γ C m po := k ▸ h
theorem J.no {Γ : Ctx} {C : KC} {α : Type} {po : α → PO} : J Γ C (.no : R α) po := fun _ _ => True.intro
theorem j_ob {Γ : Ctx} {C : KC} {α β : Type} {m : Option α} {mk : α → R β} {po : β → PO} (h : ∀ a, m = some a → J Γ C (mk a) po) : J Γ C (ob m mk) po := by
  cases m with
  | none => exact .no
  | some a => exact h a rfl
theorem Cov.lt {Γ : Ctx} {e : VL.Env} (h : Cov Γ e) {i : Nat} {s : Option Sl} (hi : Γ[i]? = some s) : i < e.length := by
  rw [h.len]
  exact (List.getElem?_eq_some_iff.mp hi).1
theorem Cov.set {Γ : Ctx} {e : VL.Env} (h : Cov Γ e) {i : Nat} {s : Sl} {b : Option B} (hb : s.ok b) : Cov (Γ.set i (some s)) (e.set i b) := by
  refine ⟨by rw [List.length_set, List.length_set, h.len], fun j t hj => ?_⟩
  by_cases e1 : i = j
  · subst e1
    have hl : i < Γ.length := by
      have := (List.getElem?_eq_some_iff.mp hj).1
      rwa [List.length_set] at this
    rw [List.getElem?_set_self hl] at hj
    cases hj
    rw [at_set_lt (by rw [h.len]; exact hl)]
    exact hb
  · rw [List.getElem?_set_ne e1] at hj
    rw [at_set_ne e1]
    exact h.hold j t hj
theorem Cov.drop {Γ : Ctx} {e : VL.Env} (h : Cov Γ e) (i : Nat) (b : Option B) : Cov (Γ.set i none) (e.set i b) := by
  refine ⟨by rw [List.length_set, List.length_set, h.len], fun j t hj => ?_⟩
  by_cases e1 : i = j
  · subst e1
    have hl : i < Γ.length := by
      have := (List.getElem?_eq_some_iff.mp hj).1
      rwa [List.length_set] at this
    rw [List.getElem?_set_self hl] at hj
    cases hj
  · rw [List.getElem?_set_ne e1] at hj
    rw [at_set_ne e1]
    exact h.hold j t hj
/-- slots kept (1), forgotten (0), read only from here on (2) -/
def restr : List Nat → Ctx → Ctx
  | _, [] => []
  | [], _ :: Γ => none :: restr [] Γ
  | 0 :: k, _ :: Γ => none :: restr k Γ
  | 2 :: k, some (.o x) :: Γ => some (.d x) :: restr k Γ
  | _ :: k, s :: Γ => s :: restr k Γ
theorem restr_len (k : List Nat) (Γ : Ctx) : (restr k Γ).length = Γ.length := by
  induction Γ generalizing k with
  | nil => unfold restr; rfl
  | cons s Γ ih =>
    unfold restr
    split <;> simp_all
theorem Sl.weak {x : PyData} {b : Option B} (h : (Sl.o x).ok b) : (Sl.d x).ok b := by
  show b.bind B.dat = some x
  rw [show b = some (bow x) from h]
  exact bow_dat x
theorem restr_get : ∀ (k : List Nat) (Γ : Ctx) (i : Nat) (s : Sl), (restr k Γ)[i]? = some (some s) → Γ[i]? = some (some s) ∨ ∃ x, s = .d x ∧ Γ[i]? = some (some (.o x))
  | _, [], i, s, h => by unfold restr at h; simp at h
  | [], t :: Γ, i, s, h => by
    unfold restr at h
    cases i with
    | zero => simp at h
    | succ i => simpa using restr_get [] Γ i s (by simpa using h)
  | n :: k, t :: Γ, i, s, h => by
    unfold restr at h
    cases i with
    | zero =>
      split at h <;> simp_all
    | succ i =>
      have : (restr k Γ)[i]? = some (some s) := by split at h <;> simp_all
      simpa using restr_get k Γ i s this
theorem Cov.restr {Γ : Ctx} {e : VL.Env} (h : Cov Γ e) (k : List Nat) : Cov (restr k Γ) e := by
  refine ⟨by rw [restr_len, h.len], fun i s hi => ?_⟩
  rcases restr_get k Γ i s hi with h1 | ⟨x, rfl, h1⟩
  · exact h.hold i s h1
  · exact Sl.weak (h.hold i _ h1)
theorem Cov.of {Γ Γ' : Ctx} {e : VL.Env} (h : Cov Γ e) {k : List Nat} (hk : TM.restr k Γ = Γ') : Cov Γ' e := hk ▸ h.restr k
theorem Cov.own {Γ : Ctx} {e : VL.Env} (h : Cov Γ e) {i : Nat} {x : PyData} (hi : Γ[i]? = some (some (.o x))) : at? e i = some (bow x) := h.hold i _ hi
theorem Cov.dat {Γ : Ctx} {e : VL.Env} (h : Cov Γ e) {i : Nat} {x : PyData} (hi : Γ[i]? = some (some (.d x))) : res e (.s i) = some x := h.hold i _ hi
theorem Cov.datO {Γ : Ctx} {e : VL.Env} (h : Cov Γ e) {i : Nat} {x : PyData} (hi : Γ[i]? = some (some (.o x))) : res e (.s i) = some x   := Sl.weak (h.hold i _ hi)
/-- an operand is read as x -/
def Rd (Γ : Ctx) (o : O) (x : PyData) : Prop := ∀ e, Cov Γ e → res e o = some x
theorem rd_d {Γ : Ctx} {i : Nat} {x : PyData} (h : Γ[i]? = some (some (.d x))) : Rd Γ (.s i) x := fun _ he => he.dat h
theorem rd_o {Γ : Ctx} {i : Nat} {x : PyData} (h : Γ[i]? = some (some (.o x))) : Rd Γ (.s i) x := fun _ he => he.datO h
theorem rd_b {Γ : Ctx} {x : PyData} : Rd Γ (.b (.fr x)) x := fun _ _ => rfl
theorem rd_w {Γ : Ctx} {x : PyData} : Rd Γ (.b (bow x)) x := fun _ _ => bow_dat x
/-- an operand is frozen to x, with the context behind it -/
def Fz (Γ : Ctx) (o : O) (x : PyData) (Γ' : Ctx) : Prop := ∀ e, Cov Γ e → ∃ e', fz e o = some (x, e') ∧ Cov Γ' e'
theorem fz_b {Γ : Ctx} {x : PyData} : Fz Γ (.b (.fr x)) x Γ := fun e he => ⟨e, rfl, he⟩
theorem fz_w {Γ : Ctx} {x : PyData} : Fz Γ (.b (bow x)) x Γ := fun e he => ⟨e, by cases x <;> rfl, he⟩
theorem set_same {e : VL.Env} {i : Nat} {b : Option B} (h : at? e i = b) : e.set i b = e := by
  apply List.ext_getElem?
  intro j
  by_cases hj : i = j
  · subst hj
    by_cases hl : i < e.length
    · rw [List.getElem?_set_self hl, List.getElem?_eq_getElem hl]
      unfold at? at h
      rw [List.getElem?_eq_getElem hl] at h
      rw [← h]
    · rw [List.getElem?_eq_none (by rw [List.length_set]; omega), List.getElem?_eq_none (by omega)]
  · rw [List.getElem?_set_ne hj]
theorem Cov.setd {Γ : Ctx} {e : VL.Env} (h : Cov Γ e) {i : Nat} {x : PyData} (hi : Γ[i]? = some (some (.d x))) {b : B} (hb : b.dat = some x) : Cov Γ (e.set i (some b)) := by
  refine ⟨by rw [List.length_set, h.len], fun j t hj => ?_⟩
  by_cases e1 : i = j
  · subst e1
    rw [hi] at hj
    cases hj
    rw [at_set_lt (h.lt hi)]
    exact hb
  · rw [at_set_ne e1]
    exact h.hold j t hj
theorem fz_d {Γ : Ctx} {i : Nat} {x : PyData} (h : Γ[i]? = some (some (.d x))) : Fz Γ (.s i) x Γ := fun e he => by
  have h1 := he.hold i _ h
  show ∃ e', (match at? e i with
    | some (.fr d) => some (d, e)
    | some (.ow ds) => some (.list ds, e.set i (some (.fr (.list ds))))
    | some (.od kvs) => some (.dict kvs, e.set i (some (.fr (.dict kvs))))
    | some (.tr t) => t.dat.map fun d => (d, e.set i (some (.fr d)))
    | _ => none) = some (x, e') ∧ Cov Γ e'
  have h2 : (at? e i).bind B.dat = some x := h1
  cases q : at? e i with
  | none => rw [q] at h2; cases h2
  | some b =>
    rw [q] at h2
    cases b with
    | fr d => cases h2; exact ⟨e, rfl, he⟩
    | ow ds => cases h2; exact ⟨_, rfl, he.setd h rfl⟩
    | od ds => cases h2; exact ⟨_, rfl, he.setd h rfl⟩
    | ex c => cases h2
    | rs k d => cases h2
    | tr t => cases h2
    | sc ns => cases h2
theorem Cov.weak {Γ : Ctx} {e : VL.Env} (h : Cov Γ e) {i : Nat} {x : PyData} (hi : Γ[i]? = some (some (.o x))) : Cov (Γ.set i (some (.d x))) e := by
  have := h.set (i := i) (s := .d x) (b := at? e i) (Sl.weak (h.hold i _ hi))
  rwa [set_same rfl] at this
theorem fz_o {Γ : Ctx} {i : Nat} {x : PyData} (h : Γ[i]? = some (some (.o x))) : Fz Γ (.s i) x (Γ.set i (some (.d x))) := fun e he =>
  fz_d (by rw [List.getElem?_set_self (by rw [← he.len]; exact he.lt h)]) e (he.weak h)
/-- frozen for a name, an answer, an argument -/
def FzB (Γ : Ctx) (o : O) (b : B) (Γ' : Ctx) : Prop := ∀ e, Cov Γ e → ∃ e', fzB e o = some (b, e') ∧ Cov Γ' e'
theorem fzb_of {Γ Γ' : Ctx} {o : O} {x : PyData} (h : Fz Γ o x Γ') : FzB Γ o (.fr x) Γ' := fun e he => by
  obtain ⟨e', h1, h2⟩ := h e he
  refine ⟨e', ?_, h2⟩
  cases o with
  | s i =>
    unfold fzB
    unfold fz at h1
    dsimp only at h1 ⊢
    unfold fz
    cases q : at? e i with
    | none => rw [q] at h1; cases h1
    | some b =>
      rw [q] at h1
      cases b with
      | fr d => cases h1; dsimp only; rw [q]; rfl
      | ow ds => cases h1; dsimp only; rw [q]; rfl
      | od ds => cases h1; dsimp only; rw [q]; rfl
      | ex c => cases h1
      | rs k d => cases h1
      | sc ns => cases h1
      | tr t =>
        dsimp only at h1 ⊢
        rw [q]
        cases qd : t.dat with
        | none => rw [qd] at h1; cases h1
        | some d => rw [qd] at h1; cases h1; dsimp only; rw [qd]; rfl
  | b b =>
    cases b with
    | fr d => cases h1; rfl
    | ow ds => cases h1; rfl
    | od ds => cases h1; rfl
    | ex c => cases h1
    | rs k d => cases h1
    | sc ns => cases h1
    | tr t =>
      have h1' : (t.dat.map fun d => (d, e)) = some (x, e') := h1
      show ((t.dat.map fun d => (d, e)).map fun p => (B.fr p.1, p.2)) = _
      rw [h1']
      rfl
theorem fzb_sc {Γ : Ctx} {i : Nat} {ns : List Int} (h : Γ[i]? = some (some (.sc ns))) : FzB Γ (.s i) (.sc ns) Γ := fun e he => ⟨e, by
  have h1 : at? e i = some (.sc ns) := he.hold i _ h
  unfold fzB
  dsimp only
  rw [h1], he⟩
def cX {α : Type} (f : VL.Env → Option (Out α)) (K : α → KC) : KC := fun e => bndS (f e) K
theorem bndS_bnd {α β : Type} (r : Option (Out α)) (k : α → VL.Env → Option (Out β)) (K : β → KC) : bndS (bnd r k) K = bndS r fun a e => bndS (k a e) K := by
  cases r with
  | none => rfl
  | some o => cases o <;> rfl
theorem bndS_ob {α β : Type} (r : Option α) (k : α → Option (Out β)) (K : β → KC) : bndS (r.bind k) K = r.bind fun a => bndS (k a) K := by cases r <;> rfl
variable {Γ Γ' Γ1 : Ctx} {α β σ τ : Type} {m : R α} {po : α → PO} {K : O → KC} {C : KC} {o o1 o2 : O} {x y : PyData} {b z : B} {i j : Nat} {f fa fb fc : FE} {rest : FS} {op : PyData → PyData → Option B}
/-- a name that is there -/
theorem j_var {s : Sl} (h : Γ[i]? = some (some s)) (k : J Γ (K (.s i)) m po) : J Γ (cX (fVar i) K) m po := k.to fun e he => ⟨e, he, by
  have : ∃ b, at? e i = some b := by
    have h1 := he.hold i _ h
    cases q : at? e i with
    | some b => exact ⟨b, rfl⟩
    | none => rw [q] at h1; cases s <;> cases h1
  obtain ⟨b, hb⟩ := this
  show bndS (match at? e i with
  | some _ => some (Out.ok (O.s i) e)
  | none => none) K = _
  rw [hb]
  rfl⟩
theorem j_c {d : PyData} (k : J Γ (K (.b (.fr d))) m po) : J Γ (cX (fC d) K) m po := k
def cFz (o : O) (K : PyData → KC) : KC := fun e => (fz e o).bind fun p => K p.1 p.2
theorem j_fz {K : PyData → KC} (h : Fz Γ o x Γ') (k : J Γ' (K x) m po) : J Γ (cFz o K) m po := k.to fun e he => by
  obtain ⟨e', h1, h2⟩ := h e he
  exact ⟨e', h2, by show (fz e o).bind _ = _; rw [h1]; rfl⟩
def cFzB (o : O) (K : B → KC) : KC := fun e => (fzB e o).bind fun p => K p.1 p.2
theorem j_fzb {K : B → KC} (h : FzB Γ o b Γ') (k : J Γ' (K b) m po) : J Γ (cFzB o K) m po := k.to fun e he => by
  obtain ⟨e', h1, h2⟩ := h e he
  exact ⟨e', h2, by show (fzB e o).bind _ = _; rw [h1]; rfl⟩
def cOp (op : PyData → PyData → Option B) (o1 o2 : O) (K : O → KC) : KC := fun e => (res e o1).bind fun x => (res e o2).bind fun y => (op x y).bind fun z => K (.b z) e
theorem j_bin (k : J Γ (cX fa fun o1 => cX fb fun o2 => cOp op o1 o2 K) m po) : J Γ (cX (fBin op fa fb) K) m po := k.eq (funext fun e => by
  show bndS (bnd (fa e) fun o1 e1 => bnd (fb e1) fun o2 e2 => (res e2 o1).bind fun x => (res e2 o2).bind fun y => (op x y).bind fun z => some (Out.ok (O.b z) e2)) K = _
  rw [bndS_bnd]
  refine congrArg _ (funext fun a => funext fun e1 => ?_)
  rw [bndS_bnd]
  refine congrArg _ (funext fun a => funext fun e2 => ?_)
  rw [bndS_ob]
  refine congrArg _ (funext fun _ => ?_)
  rw [bndS_ob]
  refine congrArg _ (funext fun _ => ?_)
  rw [bndS_ob]
  rfl)
theorem j_op (h1 : Rd Γ o1 x) (h2 : Rd Γ o2 y) (h3 : op x y = some z) (k : J Γ (K (.b z)) m po) : J Γ (cOp op o1 o2 K) m po := k.to fun e he => ⟨e, he, by
  show (res e o1).bind _ = _
  rw [h1 e he, Option.bind_some, h2 e he, Option.bind_some, h3]
  rfl⟩
/-- an operator that may say no -/
def OpR (op : PyData → PyData → Option B) (x y : PyData) (r : Option β) (z : β → B) : Prop := ∀ a, r = some a → op x y = some (z a)
theorem j_opR {r : Option β} {z : β → B} {mk : β → R α} (h1 : Rd Γ o1 x) (h2 : Rd Γ o2 y) (h3 : OpR op x y r z) (k : ∀ a, J Γ (K (.b (z a))) (mk a) po) : J Γ (cOp op o1 o2 K) (ob r mk) po := j_ob fun a ha => j_op h1 h2 (h3 a ha) (k a)
def cUn (op : PyData → Option B) (o : O) (K : O → KC) : KC := fun e => (res e o).bind fun x => (op x).bind fun z => K (.b z) e
theorem j_un {op : PyData → Option B} (k : J Γ (cX fa fun o => cUn op o K) m po) : J Γ (cX (fUn op fa) K) m po := k.eq (funext fun e => by
  show bndS (bnd (fa e) fun o1 e1 => (res e1 o1).bind fun x => (op x).bind fun z => some (Out.ok (O.b z) e1)) K = _
  rw [bndS_bnd]
  refine congrArg _ (funext fun a => funext fun e1 => ?_)
  rw [bndS_ob]
  refine congrArg _ (funext fun _ => ?_)
  rw [bndS_ob]
  rfl)
theorem j_unop {op : PyData → Option B} (h1 : Rd Γ o x) (h3 : op x = some z) (k : J Γ (K (.b z)) m po) : J Γ (cUn op o K) m po := k.to fun e he => ⟨e, he, by
  show (res e o).bind _ = _
  rw [h1 e he, Option.bind_some, h3]
  rfl⟩
theorem j_unopR {op : PyData → Option B} {r : Option β} {z : β → B} {mk : β → R α} (h1 : Rd Γ o x) (h3 : ∀ a, r = some a → op x = some (z a)) (k : ∀ a, J Γ (K (.b (z a))) (mk a) po) : J Γ (cUn op o K) (ob r mk) po := j_ob fun a ha => j_unop h1 (h3 a ha) (k a)
section
variable {K : List PyData → KC} {fd : FD}
theorem j_dnil (k : J Γ (K []) m po) : J Γ (cX dNil K) m po := k
theorem j_dcons (k : J Γ (cX f fun o => cFz o fun d => cX fd fun ds => K (d :: ds)) m po) : J Γ (cX (dCons f fd) K) m po := k.eq (funext fun e => by
  show bndS (bnd (f e) fun o e1 => (fz e1 o).bind fun p => bnd (fd p.2) fun ds e2 => some (Out.ok (p.1 :: ds) e2)) K = _
  rw [bndS_bnd]
  refine congrArg _ (funext fun a => funext fun e1 => ?_)
  rw [bndS_ob]
  refine congrArg _ (funext fun p => ?_)
  rw [bndS_bnd]
  rfl)
end
def cLst (ds : List PyData) (K : O → KC) : KC := fun e => if ds.length ≤ 1000 then K (.b (.ow ds)) e else none
theorem j_lst {fd : FD} (k : J Γ (cX fd fun ds => cLst ds K) m po) : J Γ (cX (fLst fd) K) m po := k.eq (funext fun e => by
  show bndS (bnd (fd e) fun ds e1 => if ds.length ≤ 1000 then some (Out.ok (O.b (.ow ds)) e1) else none) K = _
  rw [bndS_bnd]
  refine congrArg _ (funext fun a => funext fun e1 => ?_)
  unfold cLst
  split <;> rfl)
theorem j_lst2 {ds : List PyData} (x : PyData) (hx : PyData.list ds = x) (h : decide (ds.length ≤ 1000) = true) (k : J Γ (K (.b (bow x))) m po) : J Γ (cLst ds K) m po := k.to fun e he => ⟨e, he, by
  show (if ds.length ≤ 1000 then K (.b (.ow ds)) e else none) = _
  rw [if_pos (of_decide_eq_true h), ← hx]
  rfl⟩
def cTup (ds : List PyData) (K : O → KC) : KC := fun e => if ds.length ≤ 1000 then K (.b (.fr (.tuple ds))) e else none
theorem j_tup {fd : FD} (k : J Γ (cX fd fun ds => cTup ds K) m po) : J Γ (cX (fTup fd) K) m po := k.eq (funext fun e => by
  show bndS (bnd (fd e) fun ds e1 => if ds.length ≤ 1000 then some (Out.ok (O.b (.fr (.tuple ds))) e1) else none) K = _
  rw [bndS_bnd]
  refine congrArg _ (funext fun a => funext fun e1 => ?_)
  unfold cTup
  split <;> rfl)
theorem j_tup2 {ds : List PyData} (x : PyData) (hx : PyData.tuple ds = x) (h : decide (ds.length ≤ 1000) = true) (k : J Γ (K (.b (.fr x))) m po) : J Γ (cTup ds K) m po := k.to fun e he => ⟨e, he, by
  show (if ds.length ≤ 1000 then K (.b (.fr (.tuple ds))) e else none) = _
  rw [if_pos (of_decide_eq_true h), hx]⟩
section
variable {K : Bool → KC} {t u : FT}
def cBool (o : O) (K : Bool → KC) : KC := fun e => match res e o with
  | some (.bool b) => K b e
  | _ => none
theorem j_test (k : J Γ (cX f fun o => cBool o K) m po) : J Γ (cX (fTest f) K) m po := k.eq (funext fun e => by
  show bndS (bnd (f e) fun o e1 => match res e1 o with
    | some (.bool b) => some (Out.ok b e1)
    | _ => none) K = _
  rw [bndS_bnd]
  refine congrArg _ (funext fun a => funext fun e1 => ?_)
  unfold cBool
  split <;> rfl)
theorem j_bool {b : Bool} (h : Rd Γ o (.bool b)) (k : J Γ (K b) m po) : J Γ (cBool o K) m po := k.to fun e he => ⟨e, he, by
  unfold cBool
  rw [h e he]⟩
theorem j_not (k : J Γ (cX t fun b => K (!b)) m po) : J Γ (cX (tNot t) K) m po := k.eq (funext fun e => by
  show bndS (bnd (t e) fun b e1 => some (Out.ok (!b) e1)) K = _
  rw [bndS_bnd]
  rfl)
/-- a test told alone -/
def kB : Bool → KC := fun b e => some (.rt (.fr (.bool b)) e)
theorem j_kb {b : Bool} (h : restr l Γ = Γ') {a : α} (hp : po a = .rt (.d (.bool b)) Γ') : J Γ (kB b) (.ok a) po := fun e he => ⟨_, rfl, by
  rw [hp]
  exact ⟨_, _, rfl, rfl, he.of h⟩⟩
/-- a test, whole: what it tells, then on -/
theorem j_sub {m1 : R β} {mk : β → R α} {bv : β → Bool} {Γ1 : β → Ctx} (h : J Γ (cX t kB) m1 fun a => .rt (.d (.bool (bv a))) (Γ1 a)) (k : ∀ a, J (Γ1 a) (K (bv a)) (mk a) po) : J Γ (cX t K) (m1.bind mk) po := fun e he => by
  have h1 := h e he
  cases m1 with
  | no => trivial
  | ex c =>
    obtain ⟨e', h2⟩ := h1
    have h2' : bndS (t e) kB = some (.ex c e') := h2
    have q : t e = some (.ex c e') := by
      cases q : t e with
      | none => rw [q] at h2'; cases h2'
      | some r =>
        rw [q] at h2'
        cases r with
        | ok b e1 => cases h2'
        | ex c2 e1 => cases h2'; rfl
    show ∃ e', bndS (t e) K = _
    rw [q]
    exact ⟨_, rfl⟩
  | ok a =>
    obtain ⟨w, h2, b, e', rfl, h3, h4⟩ := h1
    have h2' : bndS (t e) kB = some (.rt b e') := h2
    have q : t e = some (.ok (bv a) e') := by
      cases q : t e with
      | none => rw [q] at h2'; cases h2'
      | some r =>
        rw [q] at h2'
        cases r with
        | ex c2 e1 => cases h2'
        | ok b1 e1 =>
          cases h2'
          cases h3
          rfl
    have h5 := k a e' h4
    show match mk a with
      | .no => True
      | .ok a => ∃ w, bndS (t e) K = some w ∧ (po a).ok w
      | .ex c => ∃ e', bndS (t e) K = some (.ex c e')
    rw [q]
    exact h5
/-- in steps: the first test's effects stay -/
theorem j_andC (k : J Γ (cX t fun b => match b with
      | true => cX u K
      | false => K false) m po) : J Γ (cX (tAnd t u) K) m po := k.eq (funext fun e => by
  show bndS (bnd (t e) fun b e1 => match b with
      | true => u e1
      | false => some (.ok false e1)) K = _
  rw [bndS_bnd]
  refine congrArg _ (funext fun a => funext fun e1 => ?_)
  cases a <;> rfl)
theorem j_orC (k : J Γ (cX t fun b => match b with
      | true => K true
      | false => cX u K) m po) : J Γ (cX (tOr t u) K) m po := k.eq (funext fun e => by
  show bndS (bnd (t e) fun b e1 => match b with
      | true => some (.ok true e1)
      | false => u e1) K = _
  rw [bndS_bnd]
  refine congrArg _ (funext fun a => funext fun e1 => ?_)
  cases a <;> rfl)
/-- two ways -/
theorem j_ite {a : Bool} {A B : KC} {m1 m2 : R α} (h1 : J Γ A m1 po) (h2 : J Γ B m2 po) : J Γ (match a with
      | true => A
      | false => B) (if a = true then m1 else m2) po := by
  cases a with
  | true => exact h1
  | false => exact h2
end
/-- and, or, not as values -/
theorem j_notV (k : J Γ (cX fa fun o => cBool o fun b => K (.b (.fr (.bool (!b))))) m po) : J Γ (cX (fNotV fa) K) m po := k.eq (funext fun e => by
  show bndS (bnd (fa e) fun o e1 => match res e1 o with
    | some (.bool b) => okD (.bool (!b)) e1
    | _ => none) K = _
  rw [bndS_bnd]
  refine congrArg _ (funext fun a => funext fun e1 => ?_)
  unfold cBool
  split <;> rfl)
end TM
set_option maxRecDepth 100000
namespace TM
open PySem L2 VL PySem.W PySem.SeqAt
variable {Γ Γ' Γ1 Γ2 : Ctx} {α β σ τ : Type} {m : R α} {po : α → PO} {K : O → KC} {C : KC} {o o1 o2 o3 : O} {x y xv : PyData} {b z : B} {i j n : Nat} {f fa fb fc fx fv : FE} {rest : FS} {op : PyData → PyData → Option B} {fd : FD} {fo fl fh : FO} {r : FA} {F : Fn} {mi : List (Nat × Nat)}
section
variable {K : List O → KC}
theorem j_anil (k : J Γ (K []) m po) : J Γ (cX aNil K) m po := k
theorem j_acons (k : J Γ (cX f fun o => cX r fun os => K (o :: os)) m po) : J Γ (cX (aCons f r) K) m po := k.eq (funext fun e => by
  show bndS (bnd (f e) fun o e1 => bnd (r e1) fun os e2 => some (Out.ok (o :: os) e2)) K = _
  rw [bndS_bnd]
  refine congrArg _ (funext fun a => funext fun e1 => ?_)
  rw [bndS_bnd]
  rfl)
theorem j_aF (k : J Γ (cX f fun o => cFzB o fun b => cX r fun os => K (.b b :: os)) m po) : J Γ (cX (aF f r) K) m po := k.eq (funext fun e => by
  show bndS (bnd (f e) fun o e1 => (fzB e1 o).bind fun p => bnd (r p.2) fun os e2 => some (Out.ok (.b p.1 :: os) e2)) K = _
  rw [bndS_bnd]
  refine congrArg _ (funext fun a => funext fun e1 => ?_)
  rw [bndS_ob]
  refine congrArg _ (funext fun p => ?_)
  rw [bndS_bnd]
  rfl)
theorem j_aM {s : Sl} (h : Γ[i]? = some (some s)) (k : J Γ (cX r fun os => K (.s i :: os)) m po) : J Γ (cX (aM i r) K) m po := k.to fun e he => ⟨e, he, by
  have : ∃ b, at? e i = some b := by
    have h1 := he.hold i _ h
    cases q : at? e i with
    | some b => exact ⟨b, rfl⟩
    | none => rw [q] at h1; cases s <;> cases h1
  obtain ⟨b, hb⟩ := this
  show bndS (match at? e i with
    | some _ => bnd (r e) fun os e2 => some (Out.ok (.s i :: os) e2)
    | none => none) K = _
  rw [hb]
  dsimp only
  rw [bndS_bnd]
  rfl⟩
def cAP (o : O) (r : FA) (K : List O → KC) : KC := fun e => match o with
  | .s i => bndS (r e) fun os => K (.s i :: os)
  | .b _ => (fzB e o).bind fun p => bndS (r p.2) fun os => K (.b p.1 :: os)
theorem j_aP (k : J Γ (cX f fun o => cAP o r K) m po) : J Γ (cX (aP f r) K) m po := k.eq (funext fun e => by
  show bndS (bnd (f e) fun o e1 => match o with
    | .s i => bnd (r e1) fun os e2 => some (Out.ok (.s i :: os) e2)
    | .b _ => (fzB e1 o).bind fun p => bnd (r p.2) fun os e2 => some (Out.ok (.b p.1 :: os) e2)) K = _
  rw [bndS_bnd]
  refine congrArg _ (funext fun a => funext fun e1 => ?_)
  cases a with
  | s i =>
    show bndS (bnd (r e1) _) K = _
    rw [bndS_bnd]
    rfl
  | b b =>
    show bndS ((fzB e1 (.b b)).bind _) K = ((fzB e1 (.b b)).bind _)
    rw [bndS_ob]
    refine congrArg _ (funext fun p => ?_)
    rw [bndS_bnd]
    rfl)
theorem j_aPs (k : J Γ (cX r fun os => K (.s i :: os)) m po) : J Γ (cAP (.s i) r K) m po := k
theorem j_aPb (k : J Γ (cX r fun os => K (.b (.fr x) :: os)) m po) : J Γ (cAP (.b (.fr x)) r K) m po := k
end
/-- operands are read as xs -/
def RdA (Γ : Ctx) (os : List O) (xs : List PyData) : Prop := ∀ e, Cov Γ e → resAll e os = some xs
theorem ra_nil : RdA Γ [] [] := fun _ _ => rfl
theorem ra_cons {os : List O} {xs : List PyData} (h : Rd Γ o x) (t : RdA Γ os xs) : RdA Γ (o :: os) (x :: xs) := fun e he => by
  show (res e o).bind _ = _
  rw [h e he, Option.bind_some, t e he]
  rfl
def cCB (g : List PyData → Option B) (os : List O) (K : O → KC) : KC := fun e => (resAll e os).bind fun ds => (g ds).bind fun z => K (.b z) e
theorem j_cb {g : List PyData → Option B} (k : J Γ (cX r fun os => cCB g os K) m po) : J Γ (cX (fCB g r) K) m po := k.eq (funext fun e => by
  show bndS (bnd (r e) fun os e1 => (resAll e1 os).bind fun ds => (g ds).bind fun z => some (Out.ok (O.b z) e1)) K = _
  rw [bndS_bnd]
  refine congrArg _ (funext fun a => funext fun e1 => ?_)
  rw [bndS_ob]
  refine congrArg _ (funext fun _ => ?_)
  rw [bndS_ob]
  rfl)
theorem j_cbop {g : List PyData → Option B} {os : List O} {xs : List PyData} (h1 : RdA Γ os xs) (h3 : g xs = some z) (k : J Γ (K (.b z)) m po) : J Γ (cCB g os K) m po := k.to fun e he => ⟨e, he, by
  show (resAll e os).bind _ = _
  rw [h1 e he, Option.bind_some, h3]
  rfl⟩
theorem j_cbopR {g : List PyData → Option B} {os : List O} {xs : List PyData} {r : Option β} {z : β → B} {mk : β → R α} (h1 : RdA Γ os xs) (h3 : ∀ a, r = some a → g xs = some (z a)) (k : ∀ a, J Γ (K (.b (z a))) (mk a) po) : J Γ (cCB g os K) (ob r mk) po := j_ob fun a ha => j_cbop h1 (h3 a ha) (k a)
def cIsi (T : Ty) (o : O) (K : O → KC) : KC := fun e => (res e o).bind fun d => K (.b (.fr (.bool (isD T d)))) e
theorem j_isi {T : Ty} (k : J Γ (cX fa fun o => cIsi T o K) m po) : J Γ (cX (fIsi T fa) K) m po := k.eq (funext fun e => by
  show bndS (bnd (fa e) fun o e1 => (res e1 o).bind fun d => okD (.bool (isD T d)) e1) K = _
  rw [bndS_bnd]
  refine congrArg _ (funext fun a => funext fun e1 => ?_)
  rw [bndS_ob]
  rfl)
theorem j_isi2 {T : Ty} {b : Bool} (h1 : Rd Γ o x) (h2 : isD T x = b) (k : J Γ (K (.b (.fr (.bool b)))) m po) : J Γ (cIsi T o K) m po := k.to fun e he => ⟨e, he, by
  show (res e o).bind _ = _
  rw [h1 e he, ← h2]
  rfl⟩
def kO : O → KC := fun o e => match res e o with
  | some d => some (.rt (.fr d) e)
  | none => none
theorem j_ko {l : List Nat} (h1 : Rd Γ o x) {a : α} (hp : po a = .rt (.d x) Γ') (h : restr l Γ = Γ') : J Γ (kO o) (.ok a) po := fun e he => ⟨.rt (.fr x) e, by
  unfold kO
  rw [h1 e he], by
  rw [hp]
  exact ⟨_, _, rfl, rfl, he.of h⟩⟩
def cCh (g h : PyData → PyData → Option B) (o1 o2 : O) (fc : FE) (K : O → KC) : KC := fun e2 => (res e2 o1).bind fun x => (res e2 o2).bind fun y => match g x y with
    | some (.fr (.bool true)) => bndS (fc e2) fun o3 e3 => (res e3 o2).bind fun y' => (res e3 o3).bind fun z => (h y' z).bind fun r => K (.b r) e3
    | some (.fr (.bool false)) => K (.b (.fr (.bool false))) e2
    | _ => none
theorem j_chain {g h : PyData → PyData → Option B} (k : J Γ (cX fa fun o1 => cX fb fun o2 => cCh g h o1 o2 fc K) m po) : J Γ (cX (fChain g h fa fb fc) K) m po := k.eq (funext fun e => by
  show bndS (bnd (fa e) fun o1 e1 => bnd (fb e1) fun o2 e2 => (res e2 o1).bind fun x => (res e2 o2).bind fun y => match g x y with
    | some (.fr (.bool true)) => bnd (fc e2) fun o3 e3 => (res e3 o2).bind fun y' => (res e3 o3).bind fun z => (h y' z).bind fun r => some (Out.ok (O.b r) e3)
    | some (.fr (.bool false)) => some (Out.ok (O.b (.fr (.bool false))) e2)
    | _ => none) K = _
  rw [bndS_bnd]
  refine congrArg _ (funext fun o1 => funext fun e1 => ?_)
  rw [bndS_bnd]
  refine congrArg _ (funext fun o2 => funext fun e2 => ?_)
  rw [bndS_ob]
  unfold cCh
  refine congrArg _ (funext fun x => ?_)
  rw [bndS_ob]
  refine congrArg _ (funext fun y => ?_)
  cases q : g x y with
  | none => rfl
  | some b =>
    cases b with
    | fr d =>
      cases d with
      | bool b =>
        cases b with
        | true =>
          dsimp only
          rw [bndS_bnd]
          refine congrArg _ (funext fun o3 => funext fun e3 => ?_)
          rw [bndS_ob]
          refine congrArg _ (funext fun x => ?_)
          rw [bndS_ob]
          refine congrArg _ (funext fun x => ?_)
          rw [bndS_ob]
          rfl
        | false => rfl
      | _ => rfl
    | _ => rfl)
theorem j_chain2 {g h : PyData → PyData → Option B} {b1 b2 : Bool} (h1 : Rd Γ o1 x) (h2 : Rd Γ o2 y) (hg : g x y = some (.fr (.bool b1))) (hc : J Γ (cX fc kO) (.ok ()) fun _ => .rt (.d xv) Γ) (hh : h y xv = some (.fr (.bool b2))) (k : J Γ (K (.b (.fr (.bool (b1 && b2))))) m po) : J Γ (cCh g h o1 o2 fc K) m po := fun e he => by
  obtain ⟨w, q1, b, e', rfl, q2, q3⟩ := hc e he
  have q4 : ∃ o3, fc e = some (.ok o3 e') ∧ res e' o3 = some xv := by
    have q1' : bndS (fc e) kO = some (.rt b e') := q1
    cases q : fc e with
    | none => rw [q] at q1'; cases q1'
    | some r =>
      rw [q] at q1'
      cases r with
      | ex c e1 => cases q1'
      | ok o3 e1 =>
        have q5 : kO o3 e1 = some (.rt b e') := q1'
        unfold kO at q5
        split at q5
        · rename_i d qd
          cases q5
          cases q2
          exact ⟨o3, rfl, qd⟩
        · cases q5
  obtain ⟨o3, q5, q6⟩ := q4
  unfold cCh
  rw [h1 e he, Option.bind_some, h2 e he, Option.bind_some, hg]
  cases b1 with
  | false => exact k e he
  | true =>
    dsimp only
    rw [q5]
    have hC : (bndS (some (Out.ok o3 e')) fun o3 e3 => (res e3 o2).bind fun y' => (res e3 o3).bind fun z => (h y' z).bind fun r => K (.b r) e3) = K (.b (.fr (.bool (true && b2)))) e' := by
      show ((res e' o2).bind fun y' => (res e' o3).bind fun z => (h y' z).bind fun r => K (.b r) e') = _
      rw [h2 e' q3, Option.bind_some, q6, Option.bind_some, hh]
      rfl
    have q7 := k e' q3
    rw [← hC] at q7
    exact q7
section
variable {K : Option Int → KC}
theorem j_ono (k : J Γ (K none) m po) : J Γ (cX oNo K) m po := k
def cInt (o : O) (K : Int → KC) : KC := fun e => match res e o with
  | some (.int i) => K i e
  | _ => none
theorem j_osome (k : J Γ (cX f fun o => cInt o fun i => K (some i)) m po) : J Γ (cX (oSome f) K) m po := k.eq (funext fun e => by
  show bndS (bnd (f e) fun o e1 => match res e1 o with
    | some (.int i) => some (Out.ok (some i) e1)
    | _ => none) K = _
  rw [bndS_bnd]
  refine congrArg _ (funext fun a => funext fun e1 => ?_)
  unfold cInt
  split <;> rfl)
theorem j_int {i : Int} {K : Int → KC} (h : Rd Γ o (.int i)) (k : J Γ (K i) m po) : J Γ (cInt o K) m po := k.to fun e he => ⟨e, he, by
  unfold cInt
  rw [h e he]⟩
end
def cSl (o : O) (l h : Option Int) (K : O → KC) : KC := fun e => (res e o).bind fun x => (oSl x l h).bind fun z => K (.b z) e
theorem j_sl (k : J Γ (cX fa fun o => cX fl fun l => cX fh fun h => cSl o l h K) m po) : J Γ (cX (fSl fa fl fh) K) m po := k.eq (funext fun e => by
  show bndS (bnd (fa e) fun o e1 => bnd (fl e1) fun l e2 => bnd (fh e2) fun h e3 => (res e3 o).bind fun x => (oSl x l h).bind fun z => some (Out.ok (O.b z) e3)) K = _
  rw [bndS_bnd]
  refine congrArg _ (funext fun _ => funext fun _ => ?_)
  rw [bndS_bnd]
  refine congrArg _ (funext fun _ => funext fun _ => ?_)
  rw [bndS_bnd]
  refine congrArg _ (funext fun _ => funext fun _ => ?_)
  rw [bndS_ob]
  refine congrArg _ (funext fun _ => ?_)
  rw [bndS_ob]
  rfl)
theorem j_slop {l h : Option Int} (h1 : Rd Γ o x) (h3 : oSl x l h = some z) (k : J Γ (K (.b z)) m po) : J Γ (cSl o l h K) m po := k.to fun e he => ⟨e, he, by
  show (res e o).bind _ = _
  rw [h1 e he, Option.bind_some, h3]
  rfl⟩
theorem j_slopR {l h : Option Int} {r : Option β} {z : β → B} {mk : β → R α} (h1 : Rd Γ o x) (h3 : ∀ a, r = some a → oSl x l h = some (z a)) (k : ∀ a, J Γ (K (.b (z a))) (mk a) po) : J Γ (cSl o l h K) (ob r mk) po := j_ob fun a ha => j_slop h1 (h3 a ha) (k a)
def cLr1 (o : O) (K : O → KC) : KC := fun e => match res e o with
  | some (.int j) => if rgOk 0 j = true then K (.b (.ow (rngN 0 j.toNat))) e else none
  | _ => none
theorem j_lr1 (k : J Γ (cX fa fun o => cLr1 o K) m po) : J Γ (cX (fListRg1 fa) K) m po := k.eq (funext fun e => by
  show bndS (bnd (fa e) fun o e1 => match res e1 o with
    | some (.int j) => if rgOk 0 j = true then some (Out.ok (O.b (.ow (rngN 0 j.toNat))) e1) else none
    | _ => none) K = _
  rw [bndS_bnd]
  refine congrArg _ (funext fun a => funext fun e1 => ?_)
  unfold cLr1
  split
  · split <;> rfl
  · rfl)
/-- lo, lo + 1, .. -/
def rngL (lo : Int) (n : Nat) : List Int := (List.range n).map fun (i : Nat) => lo + (i : Int)
theorem rngN_L (lo : Int) (n : Nat) : rngN lo n = (rngL lo n).map Datum.toD := by
  unfold rngN rngL
  rw [List.map_map]
  rfl
def lrg1 (j : Int) : Option (List Int) := if rgOk 0 j = true then some (rngL 0 j.toNat) else none
theorem j_lr1op {i : Int} {mk : List Int → R α} (h1 : Rd Γ o (.int i)) (k : ∀ a, J Γ (K (.b (bow (Datum.toD a)))) (mk a) po) : J Γ (cLr1 o K) (ob (lrg1 i) mk) po := j_ob fun a ha => (k a).to fun e he => ⟨e, he, by
  unfold cLr1
  unfold lrg1 at ha
  rw [h1 e he]
  dsimp only
  split at ha
  · rename_i q
    cases ha
    rw [if_pos q, rngN_L]
    rfl
  · cases ha⟩
def cScLen (o : O) (K : O → KC) : KC := fun e => match bOf e o with
  | some (.sc ns) => K (.b (.fr (.int ns.length))) e
  | _ => none
theorem j_scLen (k : J Γ (cX fa fun o => cScLen o K) m po) : J Γ (cX (fScLen fa) K) m po := k.eq (funext fun e => by
  show bndS (bnd (fa e) fun o e1 => match bOf e1 o with
    | some (.sc ns) => okD (.int ns.length) e1
    | _ => none) K = _
  rw [bndS_bnd]
  refine congrArg _ (funext fun a => funext fun e1 => ?_)
  unfold cScLen
  split <;> rfl)
theorem j_scLen2 {ns : List Int} (h : Γ[i]? = some (some (.sc ns))) (k : J Γ (K (.b (.fr (.int (ns.length : Nat))))) m po) : J Γ (cScLen (.s i) K) m po := k.to fun e he => ⟨e, he, by
  have h1 : bOf e (.s i) = some (.sc ns) := he.hold i _ h
  unfold cScLen
  rw [h1]⟩
def cScIx (o o2 : O) (K : O → KC) : KC := fun e2 => match bOf e2 o, res e2 o2 with
  | some (.sc ns), some (.int i) => (atI ns i).bind fun n => K (.b (.fr (.int n))) e2
  | _, _ => none
theorem j_scIx (k : J Γ (cX fa fun o => cX fb fun o2 => cScIx o o2 K) m po) : J Γ (cX (fScIx fa fb) K) m po := k.eq (funext fun e => by
  show bndS (bnd (fa e) fun o e1 => bnd (fb e1) fun o2 e2 => match bOf e2 o, res e2 o2 with
    | some (.sc ns), some (.int i) => (atI ns i).bind fun n => okD (.int n) e2
    | _, _ => none) K = _
  rw [bndS_bnd]
  refine congrArg _ (funext fun a => funext fun e1 => ?_)
  rw [bndS_bnd]
  refine congrArg _ (funext fun a => funext fun e1 => ?_)
  unfold cScIx
  split
  · rw [bndS_ob]
    rfl
  · rfl)
theorem j_scIx2 {ns : List Int} {j : Int} {mk : Int → R α} (h : Γ[i]? = some (some (.sc ns))) (h2 : Rd Γ o2 (.int j)) (k : ∀ a, J Γ (K (.b (.fr (.int a)))) (mk a) po) : J Γ (cScIx (.s i) o2 K) (ob (atI ns j) mk) po := j_ob fun a ha => (k a).to fun e he => ⟨e, he, by
  have h1 : bOf e (.s i) = some (.sc ns) := he.hold i _ h
  unfold cScIx
  rw [h1, h2 e he]
  dsimp only
  rw [ha]
  rfl⟩
def cChk (i : Nat) (C : KC) : KC := fun e => match at? e i with
  | some (.ow _) => C e
  | _ => none
def isL : PyData → Bool
  | .list _ => true
  | _ => false
theorem bow_l {x : PyData} (h : isL x = true) : ∃ ds, x = .list ds ∧ bow x = .ow ds := by
  cases x with
  | list ds => exact ⟨ds, rfl, rfl⟩
  | _ => cases h
theorem j_chk (h : Γ[i]? = some (some (.o x))) (hl : isL x = true) (k : J Γ C m po) : J Γ (cChk i C) m po := k.to fun e he => ⟨e, he, by
  obtain ⟨ds, rfl, hb⟩ := bow_l hl
  unfold cChk
  rw [he.own h, hb]⟩
def cMth (i : Nat) (g : List PyData → List PyData → Option (B × List PyData)) (as : List PyData) (K : O → KC) : KC := fun e => match at? e i with
  | some (.ow ds) => (g ds as).bind fun p => K (.b p.1) (e.set i (some (.ow p.2)))
  | _ => none
theorem j_mth {g : List PyData → List PyData → Option (B × List PyData)} (k : J Γ (cChk i (cX fd fun as => cMth i g as K)) m po) : J Γ (cX (fMth i g fd) K) m po := k.eq (funext fun e => by
  show bndS (match at? e i with
    | some (.ow _) => bnd (fd e) fun as e1 => match at? e1 i with
      | some (.ow ds) => (g ds as).bind fun p => some (Out.ok (.b p.1) (e1.set i (some (.ow p.2))))
      | _ => none
    | _ => none) K = _
  unfold cChk
  split
  · rw [bndS_bnd]
    refine congrArg _ (funext fun a => funext fun e1 => ?_)
    unfold cMth
    split
    · rw [bndS_ob]
      rfl
    · rfl
  · rfl)
theorem j_mthop {g : List PyData → List PyData → Option (B × List PyData)} {as ds es : List PyData} {y : PyData} (h : Γ[i]? = some (some (.o (.list ds)))) (hg : g ds as = some (z, es)) (hy : PyData.list es = y) (k : J (Γ.set i (some (.o y))) (K (.b z)) m po) : J Γ (cMth i g as K) m po := k.to fun e he => ⟨e.set i (some (.ow es)), by
  have := he.set (i := i) (s := .o y) (b := some (.ow es)) (by rw [← hy]; rfl)
  exact this, by
  unfold cMth
  rw [he.own h]
  show ((g ds as).bind fun p => K (.b p.1) (e.set i (some (.ow p.2)))) = _
  rw [hg]
  rfl⟩
theorem j_mthopR {g : List PyData → List PyData → Option (B × List PyData)} {as ds : List PyData} {r : Option β} {z : β → B} {es : β → List PyData} {y : β → PyData} {mk : β → R α} (h : Γ[i]? = some (some (.o (.list ds)))) (hg : ∀ a, r = some a → g ds as = some (z a, es a)) (hy : ∀ a, PyData.list (es a) = y a) (k : ∀ a, J (Γ.set i (some (.o (y a)))) (K (.b (z a))) (mk a) po) : J Γ (cMth i g as K) (ob r mk) po := j_ob fun a ha => j_mthop h (hg a ha) (hy a) (k a)
/-- what a def tells, by its mirror -/
def FnS (F : Fn) (bs : List B) (m : R α) (rv : α → Sl) (ch : α → List (Nat × Sl)) : Prop := match m with
  | .no => True
  | .ok a => ∃ b e, F bs = some (.ret b e) ∧ (rv a).ok (some b) ∧ ∀ p ∈ ch a, p.2.ok (at? e p.1)
  | .ex c => ∃ e, F bs = some (.ex c e)
inductive All2 {A B : Type} (r : A → B → Prop) : List A → List B → Prop where
  | nil : All2 r [] []
  | cons {a : A} {b : B} {as : List A} {bs : List B} : r a b → All2 r as bs → All2 r (a :: as) (b :: bs)
theorem All2.length_eq {A B : Type} {r : A → B → Prop} {as : List A} {bs : List B} (h : All2 r as bs) : as.length = bs.length := by
  induction h with
  | nil => rfl
  | cons _ _ ih => rw [List.length_cons, List.length_cons, ih]
theorem cov_args {bs : List B} {ss : List Sl} (n : Nat) (h : All2 (fun (s : Sl) b => s.ok (some b)) ss bs) : Cov (ss.map some ++ List.replicate n none) (bs.map some ++ List.replicate n none) := by
  refine ⟨?_, fun i s hi => ?_⟩
  · have := h.length_eq
    rw [List.length_append, List.length_append, List.length_map, List.length_map, List.length_replicate, List.length_replicate, this]
  · induction h generalizing i with
    | nil =>
      rw [List.map_nil, List.nil_append, List.getElem?_replicate] at hi
      split at hi <;> cases hi
    | cons h1 h2 ih =>
      cases i with
      | zero => cases hi; exact h1
      | succ i => exact ih i hi
theorem fn_mk {bs : List B} {ss : List Sl} {g : FS} {N : Nat} {rv : α → Sl} {ch : α → List (Nat × Sl)} {Γe : α → Ctx} (hN : N - bs.length = n) (hs : All2 (fun (s : Sl) b => s.ok (some b)) ss bs) (hΓ : ss.map some ++ List.replicate n none = Γ) (h : J Γ g m fun a => .rt (rv a) (Γe a)) (hc : ∀ a, ∀ p ∈ ch a, (Γe a)[p.1]? = some (some p.2)) : FnS (runF g N) bs m rv ch := by
  have h1 := h _ (hΓ ▸ cov_args n hs)
  unfold FnS
  unfold runF
  rw [hN]
  cases m with
  | no => trivial
  | ex c =>
    obtain ⟨e, h2⟩ := h1
    rw [h2]
    exact ⟨e, rfl⟩
  | ok a =>
    obtain ⟨w, h2, b, e, rfl, h3, h4⟩ := h1
    rw [h2]
    exact ⟨b, e, rfl, h3, fun p hp => h4.hold _ _ (hc a p hp)⟩
def cCall (F : Fn) (n : Nat) (mi : List (Nat × Nat)) (os : List O) (K : O → KC) : KC := fun e1 => if (slotsOk mi 0 os && miOk mi os && os.length == n) = true then (bindO e1 os).bind fun bs => match F bs with
  | none => none
  | some (.ret b e2) => K (.b b) (putBack e2 mi e1)
  | some (.ex c e2) => some (.ex c (putBack e2 mi e1)) else none
theorem j_call (k : J Γ (cX r fun os => cCall F n mi os K) m po) : J Γ (cX (fCall F n mi r) K) m po := k.eq (funext fun e => by
  show bndS (bnd (r e) fun os e1 => if (slotsOk mi 0 os && miOk mi os && os.length == n) = true then (bindO e1 os).bind fun bs => match F bs with
    | none => none
    | some (.ret b e2) => some (Out.ok (.b b) (putBack e2 mi e1))
    | some (.ex c e2) => some (Out.ex c (putBack e2 mi e1)) else none) K = _
  rw [bndS_bnd]
  refine congrArg _ (funext fun a => funext fun e1 => ?_)
  unfold cCall
  split
  · rw [bndS_ob]
    refine congrArg _ (funext fun bs => ?_)
    split <;> simp_all [bndS]
  · rfl)
/-- operands handed in -/
def BdA (Γ : Ctx) (os : List O) (bs : List B) : Prop := ∀ e, Cov Γ e → bindO e os = some bs
theorem ba_nil : BdA Γ [] [] := fun _ _ => rfl
theorem ba_b {os : List O} {bs : List B} (t : BdA Γ os bs) : BdA Γ (.b b :: os) (b :: bs) := fun e he => by
  show (bindO e os).bind _ = _
  rw [t e he]
  rfl
theorem ba_o {os : List O} {bs : List B} (h : Γ[i]? = some (some (.o x))) (t : BdA Γ os bs) : BdA Γ (.s i :: os) (bow x :: bs) := fun e he => by
  show (at? e i).bind _ = _
  rw [he.own h, Option.bind_some, t e he]
  rfl
theorem ba_rs {os : List O} {bs : List B} {k : Nat} (h : Γ[i]? = some (some (.rs k x))) (t : BdA Γ os bs) : BdA Γ (.s i :: os) (.rs k x :: bs) := fun e he => by
  have : at? e i = some (.rs k x) := he.hold i _ h
  show (at? e i).bind _ = _
  rw [this, Option.bind_some, t e he]
  rfl
/-- the context behind a call -/
def back (mi : List (Nat × Nat)) (ch : List (Nat × Sl)) (Γ : Ctx) : Ctx := mi.foldl (fun Γ p => Γ.set p.2 ((ch.find? fun q => q.1 == p.1).map (·.2))) Γ
theorem Cov.back {ch : List (Nat × Sl)} {e2 : VL.Env} (hc : ∀ p ∈ ch, p.2.ok (at? e2 p.1)) : ∀ (mi : List (Nat × Nat)) {Γ : Ctx} {e : VL.Env}, Cov Γ e → Cov (back mi ch Γ) (putBack e2 mi e)
  | [], _, _, h => h
  | (j, i) :: mi, Γ, e, h => by
    show Cov (TM.back mi ch (Γ.set i ((ch.find? fun q => q.1 == j).map (·.2)))) (putBack e2 mi (e.set i (at? e2 j)))
    refine Cov.back hc mi ?_
    cases q : ch.find? fun q => q.1 == j with
    | none => exact h.drop i _
    | some p =>
      have h1 := List.find?_some q
      have h2 := hc p (List.mem_of_find?_eq_some q)
      rw [beq_iff_eq] at h1
      rw [h1] at h2
      exact h.set h2
theorem j_callG {os : List O} {bs : List B} {m1 : R β} {rv : β → Sl} {ch : β → List (Nat × Sl)} {mk : β → R α} (h0 : (slotsOk mi 0 os && miOk mi os && os.length == n) = true) (h1 : BdA Γ os bs) (hF : FnS F bs m1 rv ch) (k : ∀ a b, (rv a).ok (some b) → J (TM.back mi (ch a) Γ) (K (.b b)) (mk a) po) : J Γ (cCall F n mi os K) (m1.bind mk) po := fun e he => by
  have hC : cCall F n mi os K e = match F bs with
    | none => none
    | some (.ret b e2) => K (.b b) (putBack e2 mi e)
    | some (.ex c e2) => some (.ex c (putBack e2 mi e)) := by
    unfold cCall
    rw [if_pos h0, h1 e he]
    rfl
  rw [hC]
  unfold FnS at hF
  cases m1 with
  | no => trivial
  | ex c =>
    obtain ⟨e2, q⟩ := hF
    rw [q]
    exact ⟨_, rfl⟩
  | ok a =>
    obtain ⟨b, e2, q, q2, q3⟩ := hF
    rw [q]
    exact k a b q2 _ (he.back q3 mi)
/-- not a list, not a dict -/
def solid : PyData → Bool
  | .list _ => false
  | .dict _ => false
  | _ => true
theorem solid_fr {b : B} (h : b.dat = some x) (hs : solid x = true) : b = .fr x := by
  cases b with
  | fr d => cases h; rfl
  | ow ds => cases h; cases hs
  | od ds => cases h; cases hs
  | ex c => cases h
  | rs k d => cases h
  | tr t => cases h
  | sc ns => cases h
/-- an answer that is no list; one that is new; any -/
theorem j_callF {os : List O} {bs : List B} {m1 : R β} {xr : β → PyData} {ch : β → List (Nat × Sl)} {mk : β → R α} {Γb : β → Ctx} (h0 : (slotsOk mi 0 os && miOk mi os && os.length == n) = true) (h1 : BdA Γ os bs) (hF : FnS F bs m1 (fun a => .d (xr a)) ch) (hs : ∀ a, solid (xr a) = true) (hb : ∀ a, TM.back mi (ch a) Γ = Γb a) (k : ∀ a, J (Γb a) (K (.b (.fr (xr a)))) (mk a) po) : J Γ (cCall F n mi os K) (m1.bind mk) po :=
  j_callG h0 h1 hF fun a b h => by
    have := solid_fr (b := b) h (hs a)
    subst this
    rw [hb]
    exact k a
theorem j_callO {os : List O} {bs : List B} {m1 : R β} {xr : β → PyData} {ch : β → List (Nat × Sl)} {mk : β → R α} {Γb : β → Ctx} (h0 : (slotsOk mi 0 os && miOk mi os && os.length == n) = true) (h1 : BdA Γ os bs) (hF : FnS F bs m1 (fun a => .o (xr a)) ch) (hb : ∀ a, TM.back mi (ch a) Γ = Γb a) (k : ∀ a, J (Γb a) (K (.b (bow (xr a)))) (mk a) po) : J Γ (cCall F n mi os K) (m1.bind mk) po :=
  j_callG h0 h1 hF fun a b h => by
    have h' : some b = some (bow (xr a)) := h
    cases h'
    rw [hb]
    exact k a
theorem j_callD {os : List O} {bs : List B} {m1 : R β} {xr : β → PyData} {ch : β → List (Nat × Sl)} {mk : β → R α} {Γb : β → Ctx} (h0 : (slotsOk mi 0 os && miOk mi os && os.length == n) = true) (h1 : BdA Γ os bs) (hF : FnS F bs m1 (fun a => .d (xr a)) ch) (hb : ∀ a, TM.back mi (ch a) Γ = Γb a) (k : ∀ a b, b.dat = some (xr a) → J (Γb a) (K (.b b)) (mk a) po) : J Γ (cCall F n mi os K) (m1.bind mk) po :=
  j_callG h0 h1 hF fun a b h => by
    rw [hb]
    exact k a b h
theorem fz_any (h : b.dat = some x) : Fz Γ (.b b) x Γ := fun e he => by
  refine ⟨e, ?_, he⟩
  cases b with
  | fr d => cases h; rfl
  | ow ds => cases h; rfl
  | od ds => cases h; rfl
  | ex c => cases h
  | rs k d => cases h
  | tr t => cases h
  | sc ns => cases h
def cCallP (F : Fn) (n : Nat) (os : List O) (K : O → KC) : KC := fun e1 => if flatO os = true then (lendO e1 os).bind fun bs => if bs.length = n then match F bs with
  | some (.ret (.fr d) _) => if isFlat d = true then K (.b (.fr d)) e1 else none
  | some (.ex c _) => some (.ex c e1)
  | _ => none else none else none
theorem j_callP (k : J Γ (cX r fun os => cCallP F n os K) m po) : J Γ (cX (fCallP F n r) K) m po := k.eq (funext fun e => by
  show bndS (bnd (r e) fun os e1 => if flatO os = true then (lendO e1 os).bind fun bs => if bs.length = n then match F bs with
    | some (.ret (.fr d) _) => if isFlat d = true then okD d e1 else none
    | some (.ex c _) => some (Out.ex c e1)
    | _ => none else none else none) K = _
  rw [bndS_bnd]
  refine congrArg _ (funext fun a => funext fun e1 => ?_)
  unfold cCallP
  split
  · rw [bndS_ob]
    refine congrArg _ (funext fun bs => ?_)
    split
    · cases F bs with
      | none => rfl
      | some q =>
        cases q with
        | ex c e => rfl
        | ret b e =>
          cases b with
          | fr d =>
            dsimp only
            split <;> rfl
          | _ => rfl
    · rfl
  · rfl)
/-- operands lent -/
def LdA (Γ : Ctx) (os : List O) (bs : List B) : Prop := ∀ e, Cov Γ e → lendO e os = some bs
theorem la_nil : LdA Γ [] [] := fun _ _ => rfl
theorem la_b {os : List O} {bs : List B} (t : LdA Γ os bs) : LdA Γ (.b b :: os) (b :: bs) := fun e he => by
  show (lendO e os).bind _ = _
  rw [t e he]
  rfl
theorem lent_dat {b : B} (h : b.dat = some x) : lent b = some (.fr x) := by
  cases b with
  | fr d => cases h; rfl
  | ow ds => cases h; rfl
  | od ds => cases h; rfl
  | ex c => cases h
  | rs k d => cases h
  | tr t => cases h
  | sc ns => cases h
theorem la_d {os : List O} {bs : List B} (h : Γ[i]? = some (some (.d x))) (t : LdA Γ os bs) : LdA Γ (.s i :: os) (.fr x :: bs) := fun e he => by
  have h1 : (at? e i).bind B.dat = some x := he.hold i _ h
  show ((at? e i).bind lent).bind _ = _
  cases q : at? e i with
  | none => rw [q] at h1; cases h1
  | some b =>
    rw [q] at h1
    rw [Option.bind_some, lent_dat h1, Option.bind_some, t e he]
    rfl
theorem la_o {os : List O} {bs : List B} (h : Γ[i]? = some (some (.o x))) (t : LdA Γ os bs) : LdA Γ (.s i :: os) (.fr x :: bs) := fun e he => by
  show ((at? e i).bind lent).bind _ = _
  rw [he.own h, Option.bind_some, lent_dat (bow_dat x), Option.bind_some, t e he]
  rfl
theorem j_callPop {os : List O} {bs : List B} {m1 : R β} {xr : β → PyData} {ch : β → List (Nat × Sl)} {mk : β → R α} (h0 : flatO os = true) (h1 : LdA Γ os bs) (hn : bs.length = n) (hF : FnS F bs m1 (fun a => .d (xr a)) ch) (hs : ∀ a, isFlat (xr a) = true) (k : ∀ a, J Γ (K (.b (.fr (xr a)))) (mk a) po) : J Γ (cCallP F n os K) (m1.bind mk) po := fun e he => by
  have hC : cCallP F n os K e = match F bs with
    | some (.ret (.fr d) _) => if isFlat d = true then K (.b (.fr d)) e else none
    | some (.ex c _) => some (.ex c e)
    | _ => none := by
    unfold cCallP
    rw [if_pos h0, h1 e he, Option.bind_some, if_pos hn]
  rw [hC]
  unfold FnS at hF
  cases m1 with
  | no => trivial
  | ex c =>
    obtain ⟨e2, q⟩ := hF
    rw [q]
    exact ⟨_, rfl⟩
  | ok a =>
    obtain ⟨b, e2, q, q2, q3⟩ := hF
    have hsd : solid (xr a) = true := by
      have := hs a
      revert this
      cases xr a <;> simp [isFlat, solid]
    have := solid_fr (b := b) q2 hsd
    subst this
    rw [q]
    dsimp only
    rw [if_pos (hs a)]
    exact k a e he
end TM
set_option maxRecDepth 100000
namespace TM
open PySem L2 VL PySem.W PySem.SeqAt
variable {Γ Γ' Γ1 Γ2 : Ctx} {α β σ τ γ υ : Type} {m : R α} {po : α → PO} {K : O → KC} {C : KC} {o o1 o2 o3 : O} {x y : PyData} {b z : B} {i j n : Nat} {f fa fb fc fx fy fv : FE} {rest A : FS} {op : PyData → PyData → Option B} {fd : FD} {fi : FI} {t : FT} {l : List Nat} {a : α}
theorem seq_bndS {q : Option (Out β)} {k : β → VL.Env → Option SO} {rest : FS} : (match bndS q k with
  | some (.nx e1) => rest e1
  | r => r) = bndS q fun a e => match k a e with
    | some (.nx e1) => rest e1
    | r => r := by
  cases q with
  | none => rfl
  | some o => cases o <;> rfl
theorem seq_ob {q : Option β} {k : β → Option SO} {rest : FS} : (match q.bind k with
  | some (.nx e1) => rest e1
  | r => r) = q.bind fun a => match k a with
    | some (.nx e1) => rest e1
    | r => r := by cases q <;> rfl
def thn (q : Option SO) (rest : FS) : Option SO := match q with
  | some (.nx e1) => rest e1
  | r => r
theorem thn_bndS {q : Option (Out β)} {k : β → VL.Env → Option SO} : thn (bndS q k) rest = bndS q fun a e => thn (k a e) rest := by
  cases q with
  | none => rfl
  | some o => cases o <;> rfl
theorem thn_ob {q : Option β} {k : β → Option SO} : thn (q.bind k) rest = q.bind fun a => thn (k a) rest := by cases q <;> rfl
def cSet (i : Nat) (b : B) (rest : FS) : KC := fun e => rest (e.set i (some b))
theorem j_asg (k : J Γ (cX f fun o => cFzB o fun b => cSet i b rest) m po) : J Γ (sSeq (sAsg i f) rest) m po := k.eq (funext fun e => by
  show (match bndS (f e) fun o e1 => (fzB e1 o).bind fun p => some (SO.nx (p.2.set i (some p.1))) with
    | some (.nx e1) => rest e1
    | r => r) = _
  rw [seq_bndS]
  refine congrArg _ (funext fun a => funext fun e1 => ?_)
  rw [seq_ob]
  rfl)
theorem j_setD (k : J (Γ.set i (some (.d x))) rest m po) : J Γ (cSet i (.fr x) rest) m po := k.to fun e he => ⟨_, he.set (s := .d x) (b := some (.fr x)) rfl, rfl⟩
theorem j_setO (k : J (Γ.set i (some (.o x))) rest m po) : J Γ (cSet i (bow x) rest) m po := k.to fun e he => ⟨_, he.set (s := .o x) (b := some (bow x)) rfl, rfl⟩
def cOwn (i : Nat) (o : O) (rest : FS) : KC := fun e => match o with
  | .b b => rest (e.set i (some b))
  | .s _ => none
theorem j_own (k : J Γ (cX f fun o => cOwn i o rest) m po) : J Γ (sSeq (sOwn i f) rest) m po := k.eq (funext fun e => by
  show (match bndS (f e) fun o e1 => match o with
    | .b b => some (SO.nx (e1.set i (some b)))
    | .s _ => none with
    | some (.nx e1) => rest e1
    | r => r) = _
  rw [seq_bndS]
  refine congrArg _ (funext fun a => funext fun e1 => ?_)
  cases a <;> rfl)
theorem j_ownb (k : J Γ (cSet i b rest) m po) : J Γ (cOwn i (.b b) rest) m po := k
def cRet (o : O) : KC := fun e => match o with
  | .b b => some (.rt b e)
  | .s i => (at? e i).bind fun b => some (.rt b (e.set i none))
theorem j_ret (k : J Γ (cX f cRet) m po) : J Γ (sSeq (sRetO f) rest) m po := k.eq (funext fun e => by
  show (match bndS (f e) cRet with
    | some (.nx e1) => rest e1
    | r => r) = _
  rw [seq_bndS]
  refine congrArg _ (funext fun a => funext fun e1 => ?_)
  unfold cRet
  cases a with
  | b b => rfl
  | s i =>
    dsimp only
    rw [seq_ob])
theorem j_retb {s : Sl} (h : s.ok (some b)) (hr : restr l Γ = Γ') (hp : po a = .rt s Γ') : J Γ (cRet (.b b)) (.ok a) po := fun e he => ⟨_, rfl, by
  rw [hp]
  exact ⟨_, _, rfl, h, he.of hr⟩⟩
theorem sl_d : (Sl.d x).ok (some (.fr x)) := rfl
theorem sl_w : (Sl.d x).ok (some (bow x)) := bow_dat x
theorem sl_o : (Sl.o x).ok (some (bow x)) := rfl
theorem sl_weak {b : Option B} (h : (Sl.o x).ok b) : (Sl.d x).ok b := Sl.weak h
theorem sl_id {s : Sl} {b : Option B} (h : s.ok b) : s.ok b := h
theorem j_rets {s s' : Sl} (h : Γ[i]? = some (some s')) (hs : ∀ b, s'.ok b → s.ok b) (hr : restr l (Γ.set i none) = Γ') (hp : po a = .rt s Γ') : J Γ (cRet (.s i)) (.ok a) po := fun e he => by
  have h1 := he.hold i _ h
  obtain ⟨b, hb⟩ : ∃ b, at? e i = some b := by
    cases q : at? e i with
    | some b => exact ⟨b, rfl⟩
    | none => rw [q] at h1; cases s' <;> cases h1
  refine ⟨.rt b (e.set i none), ?_, ?_⟩
  · show (at? e i).bind _ = _
    rw [hb]
    rfl
  · rw [hp]
    exact ⟨b, _, rfl, hs _ (hb ▸ h1), (he.drop i none).of hr⟩
theorem j_seqRaise {c : Str} : J Γ (sSeq (sRaise c) rest) (.ex c) po := fun e _ => ⟨e, rfl⟩
theorem j_nil (hr : restr l Γ = Γ') (hp : po a = .nx Γ') : J Γ sNil (.ok a) po := fun e he => ⟨_, rfl, by
  rw [hp]
  exact ⟨_, rfl, he.of hr⟩⟩
theorem seq_nil : sSeq A sNil = A := funext fun e => by
  show (match A e with
    | some (.nx e1) => some (SO.nx e1)
    | r => r) = _
  split
  · rename_i e1 q; rw [q]
  · rfl
theorem j_last (k : J Γ (sSeq A sNil) m po) : J Γ A m po := k.eq seq_nil.symm
theorem j_seqNil (k : J Γ rest m po) : J Γ (sSeq sNil rest) m po := k
theorem j_assoc {B' : FS} (k : J Γ (sSeq A (sSeq B' rest)) m po) : J Γ (sSeq (sSeq A B') rest) m po := k.eq (funext fun e => by
  show (match (match A e with
      | some (.nx e1) => B' e1
      | r => r) with
    | some (.nx e1) => rest e1
    | r => r) = match A e with
      | some (.nx e1) => (match B' e1 with
        | some (.nx e2) => rest e2
        | r => r)
      | r => r
  cases A e with
  | none => rfl
  | some w => cases w <;> rfl)
theorem j_expr (k : J Γ (cX f fun _ => rest) m po) : J Γ (sSeq (sExpr f) rest) m po := k.eq (funext fun e => by
  show (match bndS (f e) fun _ e1 => some (SO.nx e1) with
    | some (.nx e1) => rest e1
    | r => r) = _
  rw [seq_bndS]
  rfl)
inductive Fl (σ γ : Type) where
  | nx (s : σ)
  | bk (s : σ)
  | rt (a : γ)
theorem j_seq {m1 : R σ} {Γs : σ → Ctx} {mk : σ → R α} (h : J Γ A m1 fun s => .nx (Γs s)) (k : ∀ s, J (Γs s) rest (mk s) po) : J Γ (sSeq A rest) (m1.bind mk) po := fun e he => by
  have h1 := h e he
  cases m1 with
  | no => trivial
  | ex c =>
    obtain ⟨e', h2⟩ := h1
    refine ⟨e', ?_⟩
    show (match A e with
      | some (.nx e1) => rest e1
      | r => r) = _
    rw [h2]
  | ok s =>
    obtain ⟨w, h2, e', rfl, h3⟩ := h1
    have h4 := k s e' h3
    have hC : sSeq A rest e = rest e' := by
      show (match A e with
        | some (.nx e1) => rest e1
        | r => r) = _
      rw [h2]
    rw [hC]
    exact h4
/-- a part that may end all -/
def poF (Γs : σ → Ctx) (po : α → PO) : Fl σ α → PO
  | .nx s => .nx (Γs s)
  | .bk s => .bk (Γs s)
  | .rt a => po a
def Fl.out (mk : σ → R α) : Fl σ α → R α
  | .nx s => mk s
  | .bk _ => .no
  | .rt a => .ok a
@[simp] theorem out_nx {mk : σ → R α} {s : σ} : Fl.out mk (.nx s : Fl σ α) = mk s := rfl
@[simp] theorem out_rt {mk : σ → R α} {a : α} : Fl.out mk (.rt a : Fl σ α) = .ok a := rfl
/-- an end that is no next -/
def PO.fin : PO → Bool
  | .nx _ => false
  | .fn _ => false
  | _ => true
theorem j_seqF {m1 : R (Fl σ α)} {Γs : σ → Ctx} {mk : σ → R α} (hf : ∀ a, (po a).fin = true) (h : J Γ A m1 (poF Γs po)) (k : ∀ s, J (Γs s) rest (mk s) po) : J Γ (sSeq A rest) (m1.bind (Fl.out mk)) po := fun e he => by
  have h1 := h e he
  cases m1 with
  | no => trivial
  | ex c =>
    obtain ⟨e', h2⟩ := h1
    refine ⟨e', ?_⟩
    show (match A e with
      | some (.nx e1) => rest e1
      | r => r) = _
    rw [h2]
  | ok r =>
    cases r with
    | bk s => trivial
    | nx s =>
      obtain ⟨w, h2, e', rfl, h3⟩ := h1
      have h4 := k s e' h3
      have hC : sSeq A rest e = rest e' := by
        show (match A e with
          | some (.nx e1) => rest e1
          | r => r) = _
        rw [h2]
      rw [hC]
      exact h4
    | rt a =>
      obtain ⟨w, h2, h3⟩ := h1
      have h3' : (po a).ok w := h3
      refine ⟨w, ?_, h3'⟩
      show (match A e with
        | some (.nx e1) => rest e1
        | r => r) = _
      rw [h2]
      have hfa := hf a
      revert h3' hfa
      cases po a with
      | nx Γ => intro _ h; cases h
      | fn Γ => intro _ h; cases h
      | bk Γ => rintro ⟨e', rfl, _⟩ _; rfl
      | rt s Γ => rintro ⟨b, e', rfl, _⟩ _; rfl
/-- in a loop's block: a part that may end the def -/
def Fl.outF (mk : σ → R (Fl β γ)) : Fl σ γ → R (Fl β γ)
  | .nx s => mk s
  | .bk _ => .no
  | .rt a => .ok (.rt a)
@[simp] theorem outF_nx {mk : σ → R (Fl β γ)} {s : σ} : Fl.outF mk (.nx s : Fl σ γ) = mk s := rfl
@[simp] theorem outF_rt {mk : σ → R (Fl β γ)} {a : γ} : Fl.outF mk (.rt a : Fl σ γ) = .ok (.rt a) := rfl
theorem j_seqFF {m1 : R (Fl σ γ)} {Γs : σ → Ctx} {Γt : β → Ctx} {pg : γ → PO} {mk : σ → R (Fl β γ)} (hf : ∀ a, (pg a).fin = true) (h : J Γ A m1 (poF Γs pg)) (k : ∀ s, J (Γs s) rest (mk s) (poF Γt pg)) : J Γ (sSeq A rest) (m1.bind (Fl.outF mk)) (poF Γt pg) := fun e he => by
  have h1 := h e he
  cases m1 with
  | no => trivial
  | ex c =>
    obtain ⟨e', h2⟩ := h1
    refine ⟨e', ?_⟩
    show (match A e with
      | some (.nx e1) => rest e1
      | r => r) = _
    rw [h2]
  | ok r =>
    cases r with
    | bk s => trivial
    | nx s =>
      obtain ⟨w, h2, e', rfl, h3⟩ := h1
      have h4 := k s e' h3
      have hC : sSeq A rest e = rest e' := by
        show (match A e with
          | some (.nx e1) => rest e1
          | r => r) = _
        rw [h2]
      rw [hC]
      exact h4
    | rt a =>
      obtain ⟨w, h2, h3⟩ := h1
      have h3' : (pg a).ok w := h3
      refine ⟨w, ?_, h3'⟩
      show (match A e with
        | some (.nx e1) => rest e1
        | r => r) = _
      rw [h2]
      have hfa := hf a
      revert h3' hfa
      cases pg a with
      | nx Γ => intro _ h; cases h
      | fn Γ => intro _ h; cases h
      | bk Γ => rintro ⟨e', rfl, _⟩ _; rfl
      | rt s Γ => rintro ⟨b, e', rfl, _⟩ _; rfl
theorem j_if1 {B' : FS} (k : J Γ (cX t fun b => match b with
  | true => A
  | false => B') m po) : J Γ (sIf t A B') m po := k.eq (funext fun e => by
  show bndS (t e) (fun b e1 => match b with
    | true => A e1
    | false => B' e1) = _
  refine congrArg _ (funext fun a => funext fun e1 => ?_)
  cases a <;> rfl)
theorem j_if {B' : FS} (k : J Γ (cX t fun b => match b with
  | true => sSeq A rest
  | false => sSeq B' rest) m po) : J Γ (sSeq (sIf t A B') rest) m po := k.eq (funext fun e => by
  show (match bndS (t e) (fun b e1 => match b with
    | true => A e1
    | false => B' e1) with
    | some (.nx e1) => rest e1
    | r => r) = _
  rw [seq_bndS]
  refine congrArg _ (funext fun a => funext fun e1 => ?_)
  cases a <;> rfl)
def cTgt (g : FG) (d : PyData) (C : KC) : KC := fun e => match g d e with
  | none => none
  | some e1 => C e1
theorem j_gN (k : J (Γ.set i (some (.d x))) C m po) : J Γ (cTgt (gN i) x C) m po := k.to fun e he => ⟨_, he.set (s := .d x) (b := some (.fr x)) rfl, rfl⟩
def deadOk : List Nat → Ctx → Bool
  | [], _ => true
  | i :: is, Γ => (match Γ[i]? with
    | some none => true
    | none => true
    | _ => false) && deadOk is Γ
theorem Cov.forget : ∀ (dead : List Nat) {e : VL.Env}, deadOk dead Γ = true → Cov Γ e → Cov Γ (VL.forget dead e)
  | [], _, _, h => h
  | i :: is, e, hd, h => by
    show Cov Γ (VL.forget is (e.set i none))
    have hd' : ((match Γ[i]? with
      | some none => true
      | none => true
      | _ => false) && deadOk is Γ) = true := hd
    rw [Bool.and_eq_true] at hd'
    refine Cov.forget is hd'.2 ?_
    refine ⟨by rw [List.length_set, h.len], fun j s hj => ?_⟩
    by_cases q : i = j
    · subst q
      rw [hj] at hd'
      cases hd'.1
    · rw [at_set_ne q]
      exact h.hold j s hj
def foldM {τ σ : Type} (mb : σ → τ → R σ) : List τ → σ → R σ
  | [], s => .ok s
  | x :: xs, s => (mb s x).bind (foldM mb xs)
theorem j_forL {g : FG} {body : FS} {dead : List Nat} {D : τ → PyData} {Γs : σ → Ctx} {mb : σ → τ → R σ} (hd : ∀ s, deadOk dead (Γs s) = true) (hb : ∀ s x, J (Γs s) (cTgt g (D x) body) (mb s x) fun s' => .nx (Γs s')) : ∀ (xs : List τ) (s : σ), J (Γs s) (sForL g body dead (xs.map D)) (foldM mb xs s) fun s => .nx (Γs s)
  | [], s => fun e he => ⟨_, rfl, _, rfl, he.forget dead (hd s)⟩
  | x :: xs, s => fun e he => by
    have h1 := hb s x e he
    have hC : sForL g body dead ((x :: xs).map D) e = match cTgt g (D x) body e with
      | some (.nx e2) => sForL g body dead (xs.map D) (forget dead e2)
      | some (.ct e2) => sForL g body dead (xs.map D) (forget dead e2)
      | some (.bk e2) => some (.nx (forget dead e2))
      | some (.rt b e2) => some (.rt b e2)
      | some (.ex c e2) => some (.ex c e2)
      | none => none := by
      show (match g (D x) e with
        | none => none
        | some e1 => _) = _
      unfold cTgt
      cases g (D x) e <;> rfl
    rw [hC]
    unfold foldM
    cases q : mb s x with
    | no => trivial
    | ex c =>
      rw [q] at h1
      obtain ⟨e', h2⟩ := h1
      rw [h2]
      exact ⟨e', rfl⟩
    | ok s' =>
      rw [q] at h1
      obtain ⟨w, h2, e', rfl, h3⟩ := h1
      rw [h2]
      exact j_forL hd hb xs s' _ (h3.forget dead (hd s'))
theorem j_for {g : FG} {body : FS} {dead : List Nat} {xs : List τ} {D : τ → PyData} {Γs : σ → Ctx} {mb : σ → τ → R σ} (s0 : σ) (h0 : restr l Γ = Γs s0) (hd : ∀ s, deadOk dead (Γs s) = true) (hb : ∀ s x, J (Γs s) (cTgt g (D x) body) (mb s x) fun s' => .nx (Γs s')) : J Γ (sForL g body dead (xs.map D)) (foldM mb xs s0) fun s => .nx (Γs s) := fun e he => j_forL hd hb xs s0 e (he.of h0)
theorem j_sFor {g : FG} {body : FS} {dead : List Nat} (k : J Γ (cX fi fun ds => sForL g body dead ds) m po) : J Γ (sFor fi g body dead) m po := k
/-- with ends within -/
def loopM {τ σ γ : Type} (mb : σ → τ → R (Fl σ γ)) : List τ → σ → R (Fl σ γ)
  | [], s => .ok (.nx s)
  | x :: xs, s => (mb s x).bind fun r => match r with
    | .nx s => loopM mb xs s
    | .bk s => .ok (.nx s)
    | .rt a => .ok (.rt a)
theorem j_loopL {g : FG} {body : FS} {dead : List Nat} {D : τ → PyData} {Γs : σ → Ctx} {mb : σ → τ → R (Fl σ α)} (hf : ∀ a, ∃ s Γ', po a = .rt s Γ') (hd : ∀ s, deadOk dead (Γs s) = true) (hb : ∀ s x, J (Γs s) (cTgt g (D x) body) (mb s x) (poF Γs po)) : ∀ (xs : List τ) (s : σ), J (Γs s) (sForL g body dead (xs.map D)) (loopM mb xs s) (poF Γs po)
  | [], s => fun e he => ⟨_, rfl, _, rfl, he.forget dead (hd s)⟩
  | x :: xs, s => fun e he => by
    have h1 := hb s x e he
    have hC : sForL g body dead ((x :: xs).map D) e = match cTgt g (D x) body e with
      | some (.nx e2) => sForL g body dead (xs.map D) (forget dead e2)
      | some (.ct e2) => sForL g body dead (xs.map D) (forget dead e2)
      | some (.bk e2) => some (.nx (forget dead e2))
      | some (.rt b e2) => some (.rt b e2)
      | some (.ex c e2) => some (.ex c e2)
      | none => none := by
      show (match g (D x) e with
        | none => none
        | some e1 => _) = _
      unfold cTgt
      cases g (D x) e <;> rfl
    rw [hC]
    unfold loopM
    cases q : mb s x with
    | no => trivial
    | ex c =>
      rw [q] at h1
      obtain ⟨e', h2⟩ := h1
      rw [h2]
      exact ⟨e', rfl⟩
    | ok r =>
      rw [q] at h1
      cases r with
      | nx s' =>
        obtain ⟨w, h2, e', rfl, h3⟩ := h1
        rw [h2]
        exact j_loopL hf hd hb xs s' _ (h3.forget dead (hd s'))
      | bk s' =>
        obtain ⟨w, h2, e', rfl, h3⟩ := h1
        rw [h2]
        exact ⟨_, rfl, _, rfl, h3.forget dead (hd s')⟩
      | rt a =>
        obtain ⟨w, h2, h3⟩ := h1
        rw [h2]
        have h3' : (po a).ok w := h3
        obtain ⟨s1, Γ1, hp⟩ := hf a
        have h4 := h3'
        rw [hp] at h4
        obtain ⟨b, e', rfl, _⟩ := h4
        exact ⟨_, rfl, h3'⟩
theorem j_loop {g : FG} {body : FS} {dead : List Nat} {xs : List τ} {D : τ → PyData} {Γs : σ → Ctx} {mb : σ → τ → R (Fl σ α)} (s0 : σ) (h0 : restr l Γ = Γs s0) (hf : ∀ a, ∃ s Γ', po a = .rt s Γ') (hd : ∀ s, deadOk dead (Γs s) = true) (hb : ∀ s x, J (Γs s) (cTgt g (D x) body) (mb s x) (poF Γs po)) : J Γ (sForL g body dead (xs.map D)) (loopM mb xs s0) (poF Γs po) := fun e he => j_loopL hf hd hb xs s0 e (he.of h0)
end TM
set_option maxRecDepth 100000
namespace TM
open PySem L2 VL PySem.W PySem.SeqAt
variable {Γ Γ' Γ1 Γ2 : Ctx} {α β σ τ γ υ : Type} {m : R α} {po : α → PO} {K : O → KC} {C : KC} {o o1 o2 o3 : O} {x y : PyData} {b z : B} {i j n : Nat} {f fa fb fc fx fy fv : FE} {rest A : FS} {op : PyData → PyData → Option B} {fd : FD} {fi : FI} {t : FT} {l : List Nat} {a : α}
theorem j_fIf (k : J Γ (cX t fun b => match b with
  | true => cX fa K
  | false => cX fb K) m po) : J Γ (cX (fIf t fa fb) K) m po := k.eq (funext fun e => by
  show bndS (bnd (t e) fun b e1 => match b with
    | true => fa e1
    | false => fb e1) K = _
  rw [bndS_bnd]
  refine congrArg _ (funext fun a => funext fun e1 => ?_)
  cases a <;> rfl)
/-- a value alone -/
def kF : O → KC := fun o => cFz o fun d e => some (.rt (.fr d) e)
theorem j_kf (h : Fz Γ o x Γ1) {a : α} (hr : restr l Γ1 = Γ') (hp : po a = .rt (.d x) Γ') : J Γ (kF o) (.ok a) po := fun e he => by
  obtain ⟨e', h1, h2⟩ := h e he
  refine ⟨.rt (.fr x) e', ?_, ?_⟩
  · show (fz e o).bind _ = _
    rw [h1]
    rfl
  · rw [hp]
    exact ⟨_, _, rfl, rfl, h2.of hr⟩
/-- what an expression's kF tells -/
theorem kF_of {q : Option (Out O)} {b : B} {e' : VL.Env} (h : bndS q kF = some (.rt b e')) : ∃ o e1 d, q = some (.ok o e1) ∧ fz e1 o = some (d, e') ∧ b = .fr d := by
  cases q with
  | none => cases h
  | some r =>
    cases r with
    | ex c e1 => cases h
    | ok o e1 =>
      have h' : ((fz e1 o).bind fun p => some (SO.rt (.fr p.1) p.2)) = some (.rt b e') := h
      cases q2 : fz e1 o with
      | none => rw [q2] at h'; cases h'
      | some p =>
        rw [q2] at h'
        obtain ⟨d, e2⟩ := p
        cases h'
        exact ⟨o, e1, d, rfl, q2, rfl⟩
theorem kF_nx {q : Option (Out O)} {e' : VL.Env} (h : bndS q kF = some (.nx e')) : False := by
  cases q with
  | none => cases h
  | some r =>
    cases r with
    | ex c e1 => cases h
    | ok o e1 =>
      have h' : ((fz e1 o).bind fun p => some (SO.rt (.fr p.1) p.2)) = some (.nx e') := h
      cases q2 : fz e1 o with
      | none => rw [q2] at h'; cases h'
      | some p => rw [q2] at h'; cases h'
def kSkip : KC := fun e => some (.nx e)
theorem j_skip {a : α} (hr : restr l Γ = Γ') (hp : po a = .nx Γ') : J Γ kSkip (.ok a) po := fun e he => ⟨_, rfl, by
  rw [hp]
  exact ⟨_, rfl, he.of hr⟩⟩
def cItem (g : FG) (d : PyData) (t : FT) (f : FE) : KC := cTgt g d (cX t fun b => match b with
  | true => cX f kF
  | false => kSkip)
/-- an item's end: taken, or left out -/
def poI (E : υ → PyData) (Γs : σ → Ctx) : Option υ × σ → PO
  | (some y, s) => .rt (.d (E y)) (Γs s)
  | (none, s) => .nx (Γs s)
def lcS {τ σ υ : Type} (step : σ → τ → R (Option υ × σ)) : List τ → List υ → σ → R (List υ × σ)
  | [], acc, s => .ok (acc, s)
  | x :: xs, acc, s => (step s x).bind fun r => match r with
    | (none, s') => lcS step xs acc s'
    | (some y, s') => if acc.length < big then lcS step xs (acc ++ [y]) s' else .no
theorem item_of {g : FG} {d : PyData} {e : VL.Env} {w : SO} (h : cItem g d t f e = some w) : (∃ e1 e2, g d e = some e1 ∧ t e1 = some (.ok false e2) ∧ w = .nx e2) ∨ (∃ e1 e2 o e3 x e4, g d e = some e1 ∧ t e1 = some (.ok true e2) ∧ f e2 = some (.ok o e3) ∧ fz e3 o = some (x, e4) ∧ w = .rt (.fr x) e4) ∨ ∃ c e', w = .ex c e' := by
  have h0 : (match g d e with
    | none => none
    | some e1 => bndS (t e1) fun b => match b with
      | true => cX f kF
      | false => kSkip) = some w := h
  cases q : g d e with
  | none => rw [q] at h0; cases h0
  | some e1 =>
    rw [q] at h0
    dsimp only at h0
    cases q2 : t e1 with
    | none => rw [q2] at h0; cases h0
    | some r =>
      rw [q2] at h0
      cases r with
      | ex c e2 => cases h0; exact .inr (.inr ⟨_, _, rfl⟩)
      | ok b e2 =>
        cases b with
        | false => cases h0; exact .inl ⟨e1, e2, rfl, q2, rfl⟩
        | true =>
          have h1 : bndS (f e2) kF = some w := h0
          cases w with
          | rt b' e' =>
            obtain ⟨o, e3, x, k1, k2, rfl⟩ := kF_of h1
            exact .inr (.inl ⟨e1, e2, o, e3, x, e', rfl, q2, k1, k2, rfl⟩)
          | ex c e' => exact .inr (.inr ⟨_, _, rfl⟩)
          | nx e' => exact (kF_nx h1).elim
          | bk e' =>
            cases q3 : f e2 with
            | none => rw [q3] at h1; cases h1
            | some r =>
              rw [q3] at h1
              cases r with
              | ex c e1 => cases h1
              | ok o e1 =>
                have h' : ((fz e1 o).bind fun p => some (SO.rt (.fr p.1) p.2)) = some (.bk e') := h1
                cases q4 : fz e1 o with
                | none => rw [q4] at h'; cases h'
                | some p => rw [q4] at h'; cases h'
          | ct e' =>
            cases q3 : f e2 with
            | none => rw [q3] at h1; cases h1
            | some r =>
              rw [q3] at h1
              cases r with
              | ex c e1 => cases h1
              | ok o e1 =>
                have h' : ((fz e1 o).bind fun p => some (SO.rt (.fr p.1) p.2)) = some (.ct e') := h1
                cases q4 : fz e1 o with
                | none => rw [q4] at h'; cases h'
                | some p => rw [q4] at h'; cases h'
/-- no errors within -/
def R.calm (m : R α) : R α := match m with
  | .ex _ => .no
  | m => m
theorem lc_loop {g : FG} {vs : List Nat} {D : τ → PyData} {E : υ → PyData} {Γs : σ → Ctx} {step : σ → τ → R (Option υ × σ)} (hd : ∀ s, deadOk vs (Γs s) = true) (hb : ∀ s x, J (Γs s) (cItem g (D x) t f) (step s x) (poI E Γs)) : ∀ (xs : List τ) (acc : List υ) (s : σ) (e : VL.Env), Cov (Γs s) e → ∀ r, lcS (fun s x => (step s x).calm) xs acc s = .ok r →
    ∃ e', fLcL g t f vs (xs.map D) (acc.map E) e = some (.ok (.b (.ow (r.1.map E))) e') ∧ Cov (Γs r.2) e'
  | [], acc, s, e, he, r, hr => by
    cases hr
    exact ⟨e, rfl, he⟩
  | x :: xs, acc, s, e, he, r, hr => by
    unfold lcS at hr
    have h1 := hb s x e he
    cases q : step s x with
    | no => rw [q] at hr; cases hr
    | ex c => rw [q] at hr; cases hr
    | ok p =>
      rw [q] at hr h1
      obtain ⟨y, s'⟩ := p
      obtain ⟨w, h2, h3⟩ := h1
      cases y with
      | none =>
        have hr' : lcS (fun s x => (step s x).calm) xs acc s' = .ok r := hr
        obtain ⟨e', rfl, h5⟩ := h3
        rcases item_of h2 with ⟨e1, e2, k1, k2, k3⟩ | ⟨e1, e2, o, e3, x', e4, k1, k2, k3, k4, k5⟩ | ⟨c, e1, k⟩
        · cases k3
          obtain ⟨e6, k6, k7⟩ := lc_loop hd hb xs acc s' (forget vs e') (h5.forget vs (hd s')) r hr'
          refine ⟨e6, ?_, k7⟩
          show fLcL g t f vs (D x :: xs.map D) _ e = _
          rw [fLcL, k1]
          dsimp only
          rw [k2]
          exact k6
        · cases k5
        · cases k
      | some y =>
        have hr' : (if acc.length < big then lcS (fun s x => (step s x).calm) xs (acc ++ [y]) s' else .no) = .ok r := hr
        split at hr'
        · rename_i hl
          obtain ⟨b, e', rfl, h5, h6⟩ := h3
          rcases item_of h2 with ⟨e1, e2, k1, k2, k3⟩ | ⟨e1, e2, o, e3, x', e4, k1, k2, k3, k4, k5⟩ | ⟨c, e1, k⟩
          · cases k3
          · cases k5
            cases h5
            obtain ⟨e6, k6, k7⟩ := lc_loop hd hb xs (acc ++ [y]) s' (forget vs e') (h6.forget vs (hd s')) r hr'
            refine ⟨e6, ?_, k7⟩
            show fLcL g t f vs (D x :: xs.map D) _ e = _
            rw [fLcL, k1]
            dsimp only
            rw [k2]
            dsimp only
            rw [k3]
            dsimp only
            rw [k4]
            dsimp only
            rw [List.length_map, if_pos hl]
            rw [List.map_append] at k6
            exact k6
          · cases k
        · cases hr'
def cLc (g : FG) (t : FT) (f : FE) (vs : List Nat) (ds : List PyData) (K : O → KC) : KC := fun e => bndS (fLcL g t f vs ds [] (forget vs e)) K
theorem j_lc {g : FG} {vs : List Nat} (k : J Γ (cX fi fun ds => cLc g t f vs ds K) m po) : J Γ (cX (fLc fi g t f vs) K) m po := k.eq (funext fun e => by
  show bndS (bnd (fi e) fun ds e1 => fLcL g t f vs ds [] (forget vs e1)) K = _
  rw [bndS_bnd]
  rfl)
theorem j_lcG {g : FG} {vs : List Nat} {D : τ → PyData} {xs : List τ} {E : υ → PyData} {Γs : σ → Ctx} {step : σ → τ → R (Option υ × σ)} {mk : List υ × σ → R α} {xr : List υ → PyData} (s0 : σ) (h0 : restr l Γ = Γs s0) (hd : ∀ s, deadOk vs (Γs s) = true) (hb : ∀ s x, J (Γs s) (cItem g (D x) t f) (step s x) (poI E Γs)) (hx : ∀ ys, PyData.list (ys.map E) = xr ys) (k : ∀ r, J (Γs r.2) (K (.b (bow (xr r.1)))) (mk r) po) : J Γ (cLc g t f vs (xs.map D) K) ((lcS (fun s x => (step s x).calm) xs [] s0).bind mk) po := fun e he => by
  cases q : lcS (fun s x => (step s x).calm) xs [] s0 with
  | no => trivial
  | ex c =>
    exfalso
    have : ∀ (xs : List τ) (acc : List υ) (s : σ), lcS (fun s x => (step s x).calm) xs acc s ≠ .ex c := by
      intro xs
      induction xs with
      | nil => intro acc s h; cases h
      | cons x xs ih =>
        intro acc s h
        unfold lcS at h
        cases q : step s x with
        | no => rw [q] at h; cases h
        | ex c => rw [q] at h; cases h
        | ok p =>
          rw [q] at h
          obtain ⟨y, s'⟩ := p
          cases y with
          | none => exact ih acc s' h
          | some y =>
            have h' : (if acc.length < big then lcS (fun s x => (step s x).calm) xs (acc ++ [y]) s' else .no) = .ex c := h
            split at h'
            · exact ih _ _ h'
            · cases h'
    exact this _ _ _ q
  | ok r =>
    obtain ⟨e', h1, h2⟩ := lc_loop hd hb xs [] s0 (forget vs e) ((he.of h0).forget vs (hd s0)) r q
    have h3 := k r e' h2
    have hC : cLc g t f vs (xs.map D) K e = K (.b (bow (xr r.1))) e' := by
      unfold cLc
      have h1' : fLcL g t f vs (xs.map D) [] (forget vs e) = some (.ok (.b (.ow (r.1.map E))) e') := h1
      rw [h1', ← hx]
      rfl
    rw [hC]
    exact h3
/-- what keeps all that stands around -/
def lcM {τ υ : Type} (step : τ → R (Option υ)) : List τ → List υ → R (List υ)
  | [], acc => .ok acc
  | x :: xs, acc => (step x).bind fun r => match r with
    | none => lcM step xs acc
    | some y => if acc.length < big then lcM step xs (acc ++ [y]) else .no
theorem lcM_S (step : τ → R (Option υ)) : ∀ (xs : List τ) (acc : List υ), lcS (fun (_ : Unit) x => ((step x).bind fun r => R.ok (r, ())).calm) xs acc () = (lcM (fun x => (step x).calm) xs acc).bind fun ys => .ok (ys, ())
  | [], acc => rfl
  | x :: xs, acc => by
    unfold lcS lcM
    cases q : step x with
    | no => rfl
    | ex c => rfl
    | ok r =>
      cases r with
      | none => exact lcM_S step xs acc
      | some y =>
        show (if acc.length < big then lcS _ xs (acc ++ [y]) () else .no) = (if acc.length < big then lcM _ xs (acc ++ [y]) else .no).bind _
        split
        · exact lcM_S step xs (acc ++ [y])
        · rfl
/-- an item's end without a state -/
def poJ (E : υ → PyData) (Γs : Ctx) : Option υ → PO
  | some y => .rt (.d (E y)) Γs
  | none => .nx Γs
theorem j_lcM {g : FG} {vs : List Nat} {D : τ → PyData} {xs : List τ} {E : υ → PyData} {Γs : Ctx} {step : τ → R (Option υ)} {mk : List υ → R α} {xr : List υ → PyData} (h0 : restr l Γ = Γs) (hd : deadOk vs Γs = true) (hb : ∀ x, J Γs (cItem g (D x) t f) (step x) (poJ E Γs)) (hx : ∀ ys, PyData.list (ys.map E) = xr ys) (k : ∀ r, J Γs (K (.b (bow (xr r)))) (mk r) po) : J Γ (cLc g t f vs (xs.map D) K) ((lcM (fun x => (step x).calm) xs []).bind mk) po := by
  have h := j_lcG (Γ := Γ) (K := K) (po := po) (Γs := fun _ : Unit => Γs) (step := fun _ x => (step x).bind fun r => R.ok (r, ())) (E := E) (mk := fun r => mk r.1) (xr := xr) (xs := xs) () h0 (fun _ => hd) (fun _ x e he => by
    have h1 := hb x e he
    cases q : step x with
    | no => trivial
    | ex c => rw [q] at h1; exact h1
    | ok r =>
      rw [q] at h1
      cases r <;> exact h1) hx fun r => k r.1
  rw [lcM_S, bind_assoc] at h
  exact h
def cPutI (i : Nat) (o : O) (d : PyData) (C : KC) : KC := fun e => match res e o, at? e i with
  | some (.int k), some (.ow ds) => (ixN ds.length k).bind fun j => C (e.set i (some (.ow (ds.set j d))))
  | _, _ => none
def cHas (i : Nat) (C : KC) : KC := fun e => match at? e i with
  | none => none
  | some _ => C e
theorem j_has {s : Sl} (h : Γ[i]? = some (some s)) (k : J Γ C m po) : J Γ (cHas i C) m po := k.to fun e he => ⟨e, he, by
  have h1 := he.hold i _ h
  unfold cHas
  cases q : at? e i with
  | none => rw [q] at h1; cases s <;> cases h1
  | some b => rfl⟩
theorem putAt_eq {C : KC} : (fun e => bndS (putAt i fx x e) fun _ => C) = cHas i (cX fx fun o => cPutI i o x C) := funext fun e => by
  show bndS (match at? e i with
    | none => none
    | some _ => bnd (fx e) fun o e1 => match res e1 o, at? e1 i with
      | some (.int k), some (.ow ds) => (ixN ds.length k).bind fun j => some (Out.ok () (e1.set i (some (.ow (ds.set j x)))))
      | _, _ => none) _ = _
  unfold cHas
  cases q : at? e i with
  | none => rfl
  | some b =>
    dsimp only
    rw [bndS_bnd]
    refine congrArg _ (funext fun a => funext fun e1 => ?_)
    unfold cPutI
    split
    · rw [bndS_ob]
      rfl
    · rfl
theorem j_put (k : J Γ (cX fv fun o => cFz o fun d => cHas i (cX fx fun o => cPutI i o d rest)) m po) : J Γ (sSeq (sPut i fx fv) rest) m po := k.eq (funext fun e => by
  show thn (bndS (fv e) fun o e1 => (fz e1 o).bind fun p => bndS (putAt i fx p.1 p.2) fun _ e2 => some (.nx e2)) rest = _
  rw [thn_bndS]
  refine congrArg _ (funext fun a => funext fun e1 => ?_)
  rw [thn_ob]
  refine congrArg _ (funext fun p => ?_)
  rw [thn_bndS]
  exact congrFun putAt_eq p.2)
theorem j_put2 (k : J Γ (cX fd fun ds => match ds with
  | [a, b] => cHas i (cX fx fun o => cPutI i o a (cHas j (cX fy fun o => cPutI j o b rest)))
  | _ => fun _ => none) m po) : J Γ (sSeq (sPut2 i fx j fy fd) rest) m po := k.eq (funext fun e => by
  show thn (bndS (fd e) fun ds e1 => match ds with
    | [a, b] => bndS (putAt i fx a e1) fun _ e2 => bndS (putAt j fy b e2) fun _ e3 => some (.nx e3)
    | _ => none) rest = _
  rw [thn_bndS]
  refine congrArg _ (funext fun ds => funext fun e1 => ?_)
  match ds with
  | [a, b] =>
    dsimp only
    rw [thn_bndS, ← putAt_eq]
    refine congrArg _ (funext fun _ => funext fun e2 => ?_)
    rw [thn_bndS, ← putAt_eq]
    rfl
  | [] => rfl
  | [_] => rfl
  | _ :: _ :: _ :: _ => rfl)
/-- xs with v at k -/
def setI {τ : Type} (xs : List τ) (k : Int) (v : τ) : Option (List τ) := (ixN xs.length k).map fun j => xs.set j v
theorem j_putI {k : Int} {ds : List PyData} {r : Option β} {y : β → PyData} {mk : β → R α} (h : Γ[i]? = some (some (.o (.list ds)))) (ho : Rd Γ o (.int k)) (hr : ∀ a, r = some a → (ixN ds.length k).map (fun j => PyData.list (ds.set j x)) = some (y a)) (kk : ∀ a, J (Γ.set i (some (.o (y a)))) C (mk a) po) : J Γ (cPutI i o x C) (ob r mk) po := j_ob fun a ha => (kk a).to fun e he => by
  have h1 := hr a ha
  cases q : ixN ds.length k with
  | none => rw [q] at h1; cases h1
  | some j =>
    rw [q] at h1
    have h2 : PyData.list (ds.set j x) = y a := Option.some.inj h1
    refine ⟨e.set i (some (.ow (ds.set j x))), he.set (s := .o (y a)) (by rw [← h2]; rfl), ?_⟩
    unfold cPutI
    rw [ho e he, he.own h]
    show (ixN ds.length k).bind _ = _
    rw [q]
    rfl
section
variable {K : List PyData → KC}
def cIt (sel : PyData → Option (List PyData)) (o : O) (K : List PyData → KC) : KC := fun e => (fz e o).bind fun p => (sel p.1).elim (none : Option SO) fun ds => K ds p.2
def selL : PyData → Option (List PyData)
  | .list ds => some ds
  | _ => none
def selS : PyData → Option (List PyData)
  | .str z => some (z.cps.toList.map fun c => .str ⟨#[c]⟩)
  | _ => none
theorem j_it {sel : PyData → Option (List PyData)} {ds : List PyData} (h : Fz Γ o x Γ') (hs : sel x = some ds) (k : J Γ' (K ds) m po) : J Γ (cIt sel o K) m po := k.to fun e he => by
  obtain ⟨e', h1, h2⟩ := h e he
  refine ⟨e', h2, ?_⟩
  show (fz e o).bind _ = _
  rw [h1, Option.bind_some, hs]
  rfl
theorem j_iSeq (k : J Γ (cX f fun o => cIt selL o K) m po) : J Γ (cX (iSeq f) K) m po := k.eq (funext fun e => by
  show bndS (bnd (f e) fun o e1 => (fz e1 o).bind fun p => match p.1 with
    | .list ds => some (Out.ok ds p.2)
    | _ => none) K = _
  rw [bndS_bnd]
  refine congrArg _ (funext fun a => funext fun e1 => ?_)
  rw [bndS_ob]
  refine congrArg _ (funext fun p => ?_)
  obtain ⟨d, e2⟩ := p
  cases d <;> rfl)
theorem j_iText (k : J Γ (cX f fun o => cIt selS o K) m po) : J Γ (cX (iText f) K) m po := k.eq (funext fun e => by
  show bndS (bnd (f e) fun o e1 => (fz e1 o).bind fun p => match p.1 with
    | .str z => some (Out.ok (z.cps.toList.map fun c => PyData.str ⟨#[c]⟩) p.2)
    | _ => none) K = _
  rw [bndS_bnd]
  refine congrArg _ (funext fun a => funext fun e1 => ?_)
  rw [bndS_ob]
  refine congrArg _ (funext fun p => ?_)
  obtain ⟨d, e2⟩ := p
  cases d <;> rfl)
def cRg1 (o : O) (K : List PyData → KC) : KC := fun e => match res e o with
  | some (.int j) => if lim j = true then K (rngN 0 j.toNat) e else none
  | _ => none
theorem j_iRg1 (k : J Γ (cX f fun o => cRg1 o K) m po) : J Γ (cX (iRange1 f) K) m po := k.eq (funext fun e => by
  show bndS (bnd (f e) fun o e1 => match res e1 o with
    | some (.int j) => if lim j = true then some (Out.ok (rngN 0 j.toNat) e1) else none
    | _ => none) K = _
  rw [bndS_bnd]
  refine congrArg _ (funext fun a => funext fun e1 => ?_)
  unfold cRg1
  split
  · split <;> rfl
  · rfl)
def rg1 (j : Int) : Option (List Int) := if lim j = true then some (rngL 0 j.toNat) else none
theorem j_rg1 {i : Int} {mk : List Int → R α} (h1 : Rd Γ o (.int i)) (k : ∀ xs : List Int, J Γ (K (xs.map Datum.toD)) (mk xs) po) : J Γ (cRg1 o K) (ob (rg1 i) mk) po := j_ob fun a ha => (k a).to fun e he => ⟨e, he, by
  unfold cRg1
  unfold rg1 at ha
  rw [h1 e he]
  dsimp only
  split at ha
  · rename_i q
    cases ha
    rw [if_pos q, rngN_L]
  · cases ha⟩
end
def kOb : O → KC := fun o e => match o with
  | .b (.fr d) => some (.rt (.fr d) e)
  | _ => none
theorem j_kob {a : α} (hr : restr l Γ = Γ') (hp : po a = .rt (.d x) Γ') : J Γ (kOb (.b (.fr x))) (.ok a) po := fun e he => ⟨_, rfl, by
  rw [hp]
  exact ⟨_, _, rfl, rfl, he.of hr⟩⟩
theorem kO_of {q : Option (Out O)} {b : B} {e' : VL.Env} (h : bndS q kO = some (.rt b e')) : ∃ o d, q = some (.ok o e') ∧ res e' o = some d ∧ b = .fr d := by
  cases q with
  | none => cases h
  | some r =>
    cases r with
    | ex c e1 => cases h
    | ok o e1 =>
      have q5 : kO o e1 = some (.rt b e') := h
      unfold kO at q5
      split at q5
      · rename_i d qd
        cases q5
        exact ⟨o, d, rfl, qd, rfl⟩
      · cases q5
theorem kOb_of {q : Option (Out O)} {b : B} {e' : VL.Env} (h : bndS q kOb = some (.rt b e')) : ∃ d, q = some (.ok (.b (.fr d)) e') ∧ b = .fr d := by
  cases q with
  | none => cases h
  | some r =>
    cases r with
    | ex c e1 => cases h
    | ok o e1 =>
      have q5 : kOb o e1 = some (.rt b e') := h
      unfold kOb at q5
      split at q5
      · rename_i d
        cases q5
        exact ⟨d, rfl, rfl⟩
      · cases q5
/-- a value that is told, no more -/
def Tot (Γ : Ctx) (f : FE) (x : PyData) : Prop := J Γ (cX f kO) (.ok ()) fun _ => .rt (.d x) Γ
def TotB (Γ : Ctx) (f : FE) (x : PyData) : Prop := J Γ (cX f kOb) (.ok ()) fun _ => .rt (.d x) Γ
theorem Tot.run (h : Tot Γ f x) {e : VL.Env} (he : Cov Γ e) : ∃ o e', f e = some (.ok o e') ∧ res e' o = some x ∧ Cov Γ e' := by
  obtain ⟨w, h2, b, e', rfl, h4, h5⟩ := h e he
  obtain ⟨o, d, q1, q2, rfl⟩ := kO_of h2
  cases h4
  exact ⟨o, e', q1, q2, h5⟩
theorem TotB.run (h : TotB Γ f x) {e : VL.Env} (he : Cov Γ e) : ∃ e', f e = some (.ok (.b (.fr x)) e') ∧ Cov Γ e' := by
  obtain ⟨w, h2, b, e', rfl, h4, h5⟩ := h e he
  obtain ⟨d, q1, rfl⟩ := kOb_of h2
  cases h4
  exact ⟨e', q1, h5⟩
theorem j_andVP {b1 b2 : Bool} (ha : Tot Γ fa (.bool b1)) (hb : TotB Γ fb (.bool b2)) (k : J Γ (K (.b (.fr (.bool (b1 && b2))))) m po) : J Γ (cX (fAndV fa fb) K) m po := k.to fun e he => by
  obtain ⟨o, e1, h1, h2, h3⟩ := ha.run he
  obtain ⟨e2, h4, h5⟩ := hb.run h3
  cases b1 with
  | true =>
    refine ⟨e2, h5, ?_⟩
    show bndS (bnd (fa e) fun o e1 => match res e1 o with
      | some (.bool true) => fb e1
      | some (.bool false) => okD (.bool false) e1
      | _ => none) K = _
    rw [h1]
    show bndS (match res e1 o with
      | some (.bool true) => fb e1
      | some (.bool false) => okD (.bool false) e1
      | _ => none) K = _
    rw [h2]
    show bndS (fb e1) K = _
    rw [h4]
    rfl
  | false =>
    refine ⟨e1, h3, ?_⟩
    show bndS (bnd (fa e) fun o e1 => match res e1 o with
      | some (.bool true) => fb e1
      | some (.bool false) => okD (.bool false) e1
      | _ => none) K = _
    rw [h1]
    show bndS (match res e1 o with
      | some (.bool true) => fb e1
      | some (.bool false) => okD (.bool false) e1
      | _ => none) K = _
    rw [h2]
    rfl
def cOrV (o : O) (fb : FE) (K : O → KC) : KC := fun e => match res e o with
  | some (.bool true) => K (.b (.fr (.bool true))) e
  | some (.bool false) => bndS (fb e) K
  | _ => none
theorem j_orVC (k : J Γ (cX fa fun o => cOrV o fb K) m po) : J Γ (cX (fOrV fa fb) K) m po := k.eq (funext fun e => by
  show bndS (bnd (fa e) fun o e1 => match res e1 o with
    | some (.bool true) => okD (.bool true) e1
    | some (.bool false) => fb e1
    | _ => none) K = _
  rw [bndS_bnd]
  refine congrArg _ (funext fun a => funext fun e1 => ?_)
  unfold cOrV
  cases res e1 a with
  | none => rfl
  | some d =>
    cases d with
    | bool b => cases b <;> rfl
    | _ => rfl)
theorem j_orV2 {b : Bool} {m1 m2 : R α} (h : Rd Γ o (.bool b)) (h1 : J Γ (cX fb K) m1 po) (h2 : J Γ (K (.b (.fr (.bool true)))) m2 po) : J Γ (cOrV o fb K) (if b = true then m2 else m1) po := by
  cases b with
  | false =>
    rw [if_neg (by decide)]
    exact h1.to fun e he => ⟨e, he, by unfold cOrV; rw [h e he]; rfl⟩
  | true =>
    rw [if_pos rfl]
    exact h2.to fun e he => ⟨e, he, by unfold cOrV; rw [h e he]⟩
theorem j_chain3 {g h : PyData → PyData → Option B} {b1 b2 : Bool} {xv : PyData} (h1 : Rd Γ o1 x) (h2 : Rd Γ o2 y) (hg : g x y = some (.fr (.bool b1))) (hc : Tot Γ fc xv) (hh : h y xv = some (.fr (.bool b2))) (k : J Γ (K (.b (.fr (.bool (b1 && b2))))) m po) : J Γ (cCh g h o1 o2 fc K) m po := j_chain2 h1 h2 hg hc hh k
end TM
set_option maxRecDepth 100000
namespace TM
open PySem L2 VL PySem.W PySem.SeqAt Datum
section
variable {a b : Int}
theorem x_add : oAdd (toD a) (toD b) = some (.fr (toD (a + b))) := rfl
theorem x_sub : oSub (toD a) (toD b) = some (.fr (toD (a - b))) := rfl
theorem x_mul (h : cMul a b = true) : oMul (toD a) (toD b) = some (.fr (toD (a * b))) := by
  show (if cMul a b = true then some (B.fr (.int (a * b))) else none) = _
  rw [if_pos h]
  rfl
theorem cmul_l (h : decide (a.natAbs < 2 ^ 64) = true) : cMul a b = true := by unfold cMul; rw [h]; rfl
def mulI (a b : Int) : Option Int := if cMul a b = true then some (a * b) else none
theorem x_mulR : OpR oMul (toD a) (toD b) (mulI a b) fun z => .fr (toD z) := fun z hz => by
  unfold mulI at hz
  split at hz
  · rename_i h; cases hz; exact x_mul h
  · cases hz
theorem x_mod (h : decide (0 < b) = true) : oMod (toD a) (toD b) = some (.fr (toD (a % b))) := by
  show (if decide (0 < b) = true then some (B.fr (.int (a % b))) else none) = _
  rw [if_pos h]
  rfl
def modI (a b : Int) : Option Int := if decide (0 < b) = true then some (a % b) else none
theorem x_modR : OpR oMod (toD a) (toD b) (modI a b) fun z => .fr (toD z) := fun z hz => by
  unfold modI at hz
  split at hz
  · rename_i h; cases hz; exact x_mod h
  · cases hz
theorem x_fdiv (h : cFdiv a b = true) : opI cFdiv (fun i j => i / j) (toD a) (toD b) = some (.fr (toD (a / b))) := by
  show (if cFdiv a b = true then some (B.fr (.int (a / b))) else none) = _
  rw [if_pos h]
  rfl
theorem cfdiv_r (h : (decide (0 < b) && decide (b.natAbs < 2 ^ 200)) = true) : cFdiv a b = true := h
def fdivI (a b : Int) : Option Int := if cFdiv a b = true then some (a / b) else none
theorem x_fdivR : OpR (opI cFdiv fun i j => i / j) (toD a) (toD b) (fdivI a b) fun z => .fr (toD z) := fun z hz => by
  unfold fdivI at hz
  split at hz
  · rename_i h; cases hz; exact x_fdiv h
  · cases hz
theorem x_pow (h : cPow a b = true) : oPow (toD a) (toD b) = some (.fr (toD (a ^ b.toNat))) := by
  show (if cPow a b = true then some (B.fr (.int (a ^ b.toNat))) else none) = _
  rw [if_pos h]
  rfl
theorem x_neg : oNeg (toD a) = some (.fr (toD (-a))) := rfl
theorem x_lt : oLt (toD a) (toD b) = some (.fr (toD (decide (a < b)))) := rfl
theorem x_le : oLe (toD a) (toD b) = some (.fr (toD (decide (a ≤ b)))) := rfl
theorem x_gt : oGt (toD a) (toD b) = some (.fr (toD (decide (b < a)))) := rfl
theorem x_ge : oGe (toD a) (toD b) = some (.fr (toD (decide (b ≤ a)))) := rfl
def max2 (a b : Int) : Int := if b > a then b else a
def min2 (a b : Int) : Int := if b < a then b else a
theorem x_max2 : gMax [toD a, toD b] = some (.fr (toD (max2 a b))) := rfl
theorem x_min2 : gMin [toD a, toD b] = some (.fr (toD (min2 a b))) := rfl
def b2i (b : Bool) : Int := if b then 1 else 0
theorem x_intB {b : Bool} : gInt [toD b] = some (.fr (toD (b2i b))) := rfl
end
section
variable {τ : Type} [DecidableEq τ] [Datum τ] {x y : τ} {xs ys : List τ} {i : Int}
/-- alike, where it may be asked -/
def eqG (x y : τ) : Option Bool := if (shaped (toD x) && shaped (toD y)) = true then some (decide (x = y)) else isE (toD x) (toD y)
theorem x_eqG : OpR oEq (toD x) (toD y) (eqG x y) fun b => .fr (toD b) := fun z hz => by
  unfold eqG at hz
  unfold oEq
  split at hz
  · rename_i h
    rw [Bool.and_eq_true] at h
    cases hz
    rw [if_pos ⟨h.1, h.2⟩, Datum.eqv]
    rfl
  · rename_i h
    rw [Bool.and_eq_true] at h
    rw [if_neg h, hz]
    rfl
def neG (x y : τ) : Option Bool := if (shaped (toD x) && shaped (toD y)) = true then some (!decide (x = y)) else (isE (toD x) (toD y)).map fun b => !b
theorem x_neG : OpR oNe (toD x) (toD y) (neG x y) fun b => .fr (toD b) := fun z hz => by
  unfold neG at hz
  unfold oNe
  split at hz
  · rename_i h
    rw [Bool.and_eq_true] at h
    cases hz
    rw [if_pos ⟨h.1, h.2⟩, Datum.eqv]
    rfl
  · rename_i h
    rw [Bool.and_eq_true] at h
    rw [if_neg h]
    cases hb : isE (toD x) (toD y) with
    | none => rw [hb] at hz; cases hz
    | some r =>
      rw [hb] at hz
      cases hz
      rfl
theorem eqG_str (a b : Str) : eqG a b = some (decide (a = b)) := by
  unfold eqG
  split
  · rfl
  · show some (a == b) = _
    congr 1
theorem neG_str (a b : Str) : neG a b = some (!decide (a = b)) := by
  unfold neG
  split
  · rfl
  · show some (!(a == b)) = _
    congr 2
theorem x_eq [Lay τ] : oEq (toD x) (toD y) = some (.fr (toD (decide (x = y)))) := o_eq x y
theorem x_ne [Lay τ] : oNe (toD x) (toD y) = some (.fr (toD (!decide (x = y)))) := o_ne x y
theorem in_def (d : PyData) (ds : List PyData) : oIn d (.list ds) = if SeqAt.shaped d = true ∧ SeqAt.shaped (.list ds) = true then some (.fr (.bool (ds.any fun z => PyData.eqv z d))) else none := by
  cases d <;> rfl
theorem atI_map' {β γ : Type} (f : β → γ) (xs : List β) (i : Int) : atI (xs.map f) i = (atI xs i).map f := by
  unfold atI
  rw [List.length_map]
  cases ixN xs.length i with
  | none => rfl
  | some j => rw [Option.bind_some, Option.bind_some, List.getElem?_map]
theorem x_ix : OpR oIx (toD xs) (toD i) (atI xs i) fun z => .fr (toD z) := fun z hz => by
  show (atI (xs.map toD) i).map B.fr = _
  rw [atI_map', hz]
  rfl
def addL (xs ys : List τ) : Option (List τ) := if xs.length + ys.length ≤ big then some (xs ++ ys) else none
theorem x_addL : OpR oAdd (toD xs) (toD ys) (addL xs ys) fun z => bow (toD z) := fun z hz => by
  unfold addL at hz
  split at hz
  · rename_i h
    cases hz
    show (if (xs.map toD).length + (ys.map toD).length ≤ big then some (B.ow (xs.map toD ++ ys.map toD)) else none) = _
    rw [List.length_map, List.length_map, if_pos h, ← List.map_append]
    rfl
  · cases hz
theorem x_rev : oRev (toD xs) = some (bow (toD xs.reverse)) := by
  show some (B.ow (xs.map toD).reverse) = some (B.ow (xs.reverse.map toD))
  rw [List.map_reverse]
theorem x_len : gLen [toD xs] = some (.fr (toD (xs.length : Int))) := by
  show some (B.fr (.int ((xs.map toD).length : Nat))) = _
  rw [List.length_map]
  rfl
def popI (xs : List τ) (i : Int) : Option (τ × List τ) := if lim63 i = true then (seqIndex? i xs.length).bind fun k => (xs[k]?).map fun x => (x, xs.eraseIdx k) else none
theorem map_eraseIdx {α β : Type} (f : α → β) : ∀ (xs : List α) (j : Nat), (xs.map f).eraseIdx j = (xs.eraseIdx j).map f
  | [], _ => rfl
  | x :: xs, 0 => rfl
  | x :: xs, j + 1 => by
    show f x :: (xs.map f).eraseIdx j = f x :: (xs.eraseIdx j).map f
    rw [map_eraseIdx f xs j]
theorem x_popI (a : τ × List τ) (h : popI xs i = some a) : mPop (xs.map toD) [toD i] = some (.fr (toD a.1), a.2.map toD) := by
  unfold popI at h
  show (if lim63 i = true then (seqIndex? i (xs.map toD).length).bind fun k => ((xs.map toD)[k]?).map fun d => (B.fr d, (xs.map toD).eraseIdx k) else none) = _
  split at h
  · rename_i hl
    rw [if_pos hl, List.length_map]
    cases q : seqIndex? i xs.length with
    | none => rw [q] at h; cases h
    | some k =>
      rw [q] at h
      rw [Option.bind_some] at h ⊢
      rw [List.getElem?_map]
      cases q2 : xs[k]? with
      | none => rw [q2] at h; cases h
      | some z =>
        rw [q2] at h
        cases h
        show some (B.fr (toD z), (xs.map toD).eraseIdx k) = _
        rw [map_eraseIdx]
  · cases h
def insL (xs : List τ) (i : Int) (v : τ) : Option (List τ) := if 0 ≤ i ∧ i.natAbs < 2 ^ 62 ∧ xs.length < big then some (xs.take i.toNat ++ [v] ++ xs.drop i.toNat) else none
theorem x_ins (a : List τ) (h : insL xs i x = some a) : mInsert (xs.map toD) [toD i, toD x] = some (.fr .none, a.map toD) := by
  unfold insL at h
  split at h
  · rename_i hl
    cases h
    show (if 0 ≤ i ∧ i.natAbs < 2 ^ 62 ∧ (xs.map toD).length < big then some (B.fr .none, (xs.map toD).take i.toNat ++ [toD x] ++ (xs.map toD).drop i.toNat) else none) = _
    rw [List.length_map, if_pos hl, List.map_append, List.map_append, List.map_take, List.map_drop]
    rfl
  · cases h
theorem x_set (v : τ) (a : List τ) (h : setI xs i v = some a) : (ixN (xs.map toD).length i).map (fun j => PyData.list ((xs.map toD).set j (toD v))) = some (toD a) := by
  unfold setI at h
  rw [List.length_map]
  cases q : ixN xs.length i with
  | none => rw [q] at h; cases h
  | some j =>
    rw [q] at h
    cases h
    show some (PyData.list ((xs.map toD).set j (toD v))) = some (PyData.list ((xs.set j v).map toD))
    rw [List.map_set]
end
section
variable {xs : List Int} {i v : Int}
theorem asInts_D : asInts (xs.map toD) = some xs := asInts_map xs
theorem x_sorted : gSorted [toD xs] = some (bow (toD (xs.mergeSort leI))) := by
  show (asInts (xs.map toD)).map (fun ns => B.ow ((ns.mergeSort leI).map .int)) = _
  rw [asInts_D]
  rfl
end
end TM
set_option maxRecDepth 100000
namespace TM
open PySem L2 VL PySem.W PySem.SeqAt Datum
end TM
set_option maxRecDepth 100000
namespace TM
open PySem L2 VL PySem.W PySem.SeqAt Datum
class KeyT (κ : Type) [DecidableEq κ] [Datum κ] : Prop where
  isK : ∀ a : κ, isK (toD a) = true
  keq : ∀ a b : κ, keq (toD a) (toD b) = decide (a = b)
instance : KeyT Int := ⟨fun _ => rfl, fun _ _ => rfl⟩
instance : KeyT Str := ⟨fun _ => rfl, fun _ _ => rfl⟩
section
variable {κ υ : Type} [DecidableEq κ] [Datum κ] [DecidableEq υ] [Datum υ]
/-- a dict's entries as data -/
def eD (p : κ × υ) : PyData × PyData := (toD p.1, toD p.2)
def dD (l : List (κ × υ)) : PyData := .dict (l.map eD)
variable [KeyT κ] {l : List (κ × υ)} {k : κ} {v : υ}
end
variable {Γ Γ' : Ctx} {α β : Type} {m : R α} {po : α → PO} {K : O → KC} {o o1 o2 o3 : O} {fa fk fv fx : FE} {rest : FS} {x y : PyData} {i : Nat} {C : KC}
variable {κ υ : Type} [DecidableEq κ] [Datum κ] [DecidableEq υ] [Datum υ] [KeyT κ]
theorem j_dnew (k : J Γ (K (.b (bow (dD ([] : List (κ × υ)))))) m po) : J Γ (cX fDNew K) m po := k
end TM
set_option maxRecDepth 100000
namespace TM
open PySem L2 VL PySem.W Datum
end TM
set_option maxRecDepth 100000
namespace TM
open PySem L2 VL PySem.W Datum
end TM
set_option maxRecDepth 100000
namespace TM
open PySem L2 VL PySem.W Datum
end TM
namespace TM
open PySem L2 VL PySem.W Datum
end TM
set_option maxRecDepth 100000
namespace TM
open PySem L2 VL PySem.W Datum PyProof.Rows
end TM
set_option maxRecDepth 100000
namespace TM
open PySem L2 VL PySem.W Datum
end TM
set_option maxRecDepth 100000
namespace TM
open PySem L2 VL PySem.W Datum
end TM
set_option maxRecDepth 100000
namespace TM
open PySem L2 VL PySem.W Datum
abbrev idD (y : PyData) : PyData := y
theorem mapId (xs : List PyData) : xs.map idD = xs := by
  induction xs with
  | nil => rfl
  | cons x xs ih => rw [List.map_cons, ih]
def asS : PyData → Option Str
  | .str i => some i
  | _ => none
def asLY : PyData → Option (List PyData)
  | .list ds => some ds
  | _ => none
def asLI : PyData → Option (List Int)
  | .list ds => asInts ds
  | _ => none
theorem asS_eq {y : PyData} (a : Str) (h : asS y = some a) : y = toD a := by cases y <;> cases h; rfl
theorem asLY_eq {y : PyData} (a : List PyData) (h : asLY y = some a) : y = .list (a.map idD) := by cases y <;> cases h; rw [mapId]
theorem asInts_eq : ∀ {ds : List PyData} {a : List Int}, asInts ds = some a → ds = a.map toD
  | [], _, h => by cases h; rfl
  | d :: ds, a, h => by
    cases d with
    | int i =>
      unfold asInts at h
      cases q : asInts ds with
      | none => rw [q] at h; cases h
      | some b => rw [q] at h; cases h; rw [asInts_eq q]; rfl
    | _ => cases h
theorem asLI_eq {y : PyData} (a : List Int) (h : asLI y = some a) : y = toD a := by
  cases y with
  | list ds => rw [asInts_eq h]; rfl
  | _ => cases h
variable {Γ Γ' Γ1 : Ctx} {α β σ τ υ : Type} {m : R α} {po : α → PO} {K : O → KC} {C : KC} {o o1 o2 : O} {x y : PyData} {b z : B} {i j : Nat} {f fa fb fc : FE} {rest : FS} {op : PyData → PyData → Option B} {r : FA} {l : List Nat} {n : Nat} {mi : List (Nat × Nat)} {F : Fn}
theorem rd_eq (h : x = y) (r : Rd Γ o x) : Rd Γ o y := h ▸ r
theorem fz_eq (h : x = y) (r : Fz Γ o x Γ') : Fz Γ o y Γ' := h ▸ r
def lenY (d : PyData) : Option Int := (gLen [d]).bind fun b => match b with
  | .fr (.int i) => some i
  | _ => none
theorem x_lenY (a : Int) (h : lenY y = some a) : gLen [y] = some (.fr (toD a)) := by
  unfold lenY at h
  cases q : gLen [y] with
  | none => rw [q] at h; cases h
  | some b =>
    rw [q, Option.bind_some] at h
    split at h
    · cases h; rfl
    · cases h
theorem x_ixY {xs : List PyData} {i : Int} : OpR oIx (.list (xs.map idD)) (toD i) (atI xs i) fun z => .fr z := fun z hz => by
  rw [mapId]
  show (atI xs i).map B.fr = _
  rw [hz]
  rfl
def inY (x : PyData) (xs : List PyData) : Option Bool := if SeqAt.shaped x = true ∧ SeqAt.shaped (.list xs) = true then some (xs.any fun z => PyData.eqv z x) else none
theorem x_inY {xs : List PyData} : OpR oIn x (.list (xs.map idD)) (inY x xs) fun b => .fr (toD b) := fun z hz => by
  rw [mapId, in_def]
  unfold inY at hz
  split at hz
  · rename_i h
    cases hz
    rw [if_pos h]
    rfl
  · cases hz
def eqY (x y : PyData) : Option Bool := if SeqAt.shaped x = true ∧ SeqAt.shaped y = true then some (PyData.eqv x y) else isE x y
theorem x_eqY : OpR oEq x y (eqY x y) fun b => .fr (toD b) := fun z hz => by
  unfold eqY at hz
  unfold oEq
  split at hz
  · rename_i h
    cases hz
    rw [if_pos h]
    rfl
  · rename_i h
    rw [if_neg h, hz]
    rfl
def neY (x y : PyData) : Option Bool := if SeqAt.shaped x = true ∧ SeqAt.shaped y = true then some (!PyData.eqv x y) else (isE x y).map fun b => !b
theorem x_neY : OpR oNe x y (neY x y) fun b => .fr (toD b) := fun z hz => by
  unfold neY at hz
  unfold oNe
  split at hz
  · rename_i h
    cases hz
    rw [if_pos h]
    rfl
  · rename_i h
    rw [if_neg h]
    cases hb : isE x y with
    | none => rw [hb] at hz; cases hz
    | some r =>
      rw [hb] at hz
      cases hz
      rfl
def cIsX (cs ds : List Str) (o : O) (K : O → KC) : KC := fun e => match bOf e o with
  | some (.ex c) => if c ∈ cs then K (.b (.fr (.bool (ds.any (isSub c))))) e else none
  | some (.fr .none) => K (.b (.fr (.bool false))) e
  | _ => none
theorem j_isX {cs ds : List Str} (k : J Γ (cX fa fun o => cIsX cs ds o K) m po) : J Γ (cX (fIsX cs ds fa) K) m po := k.eq (funext fun e => by
  show bndS (bnd (fa e) fun o e1 => match bOf e1 o with
    | some (.ex c) => if c ∈ cs then okD (.bool (ds.any (isSub c))) e1 else none
    | some (.fr .none) => okD (.bool false) e1
    | _ => none) K = _
  rw [bndS_bnd]
  refine congrArg _ (funext fun a => funext fun e1 => ?_)
  unfold cIsX
  split
  · split <;> rfl
  · rfl
  · rfl)
/-- what isinstance tells of it -/
def isXG (cs ds : List Str) : Option Str → Option Bool
  | none => some false
  | some c => if c ∈ cs then some (ds.any (isSub c)) else none
def BoX (Γ : Ctx) (o : O) (x : Option Str) : Prop := ∀ e, Cov Γ e → bOf e o = some (xB x)
theorem bo_s {x : Option Str} (h : Γ[i]? = some (some (.xo x))) : BoX Γ (.s i) x := fun e he => he.hold i _ h
theorem j_isX2 {cs ds : List Str} {x : Option Str} {mk : Bool → R α} (h : BoX Γ o x) (k : ∀ b, J Γ (K (.b (.fr (toD b)))) (mk b) po) : J Γ (cIsX cs ds o K) (ob (isXG cs ds x) mk) po := j_ob fun b hb => (k b).to fun e he => ⟨e, he, by
  unfold cIsX
  rw [h e he]
  cases x with
  | none => cases hb; rfl
  | some c =>
    have hb' : (if c ∈ cs then some (ds.any (isSub c)) else none) = some b := hb
    by_cases q : c ∈ cs
    · rw [if_pos q] at hb'
      cases hb'
      show (if c ∈ cs then _ else _) = _
      rw [if_pos q]
      rfl
    · rw [if_neg q] at hb'
      cases hb'⟩
def cIsN (neg : Bool) (o : O) (K : O → KC) : KC := fun e => match bOf e o with
  | some (.ex _) => K (.b (.fr (.bool neg))) e
  | some (.fr d) => K (.b (.fr (.bool (isNone d != neg)))) e
  | _ => none
theorem j_isN {neg : Bool} (k : J Γ (cX fa fun o => cIsN neg o K) m po) : J Γ (cX (fIsN neg fa) K) m po := k.eq (funext fun e => by
  show bndS (bnd (fa e) fun o e1 => match bOf e1 o with
    | some (.ex _) => okD (.bool neg) e1
    | some (.fr d) => okD (.bool (isNone d != neg)) e1
    | _ => none) K = _
  rw [bndS_bnd]
  refine congrArg _ (funext fun a => funext fun e1 => ?_)
  unfold cIsN
  split <;> rfl)
theorem j_isN2 {x : Option Str} (h : BoX Γ o x) (k : J Γ (K (.b (.fr (toD x.isNone)))) m po) : J Γ (cIsN false o K) m po := k.to fun e he => ⟨e, he, by
  unfold cIsN
  rw [h e he]
  cases x <;> rfl⟩
/-- the kept names -/
def keepC : List Nat → Nat → Ctx → Ctx
  | _, _, [] => []
  | ks, k, s :: Γ => (if ks.contains k then (match s with
    | some (.o x) => some (.d x)
    | some (.d x) => some (.d x)
    | some (.ex c) => some (.ex c)
    | some (.sc ns) => some (.sc ns)
    | some (.xo o) => some (.xo o)
    | _ => none) else none) :: keepC ks (k + 1) Γ
theorem keepC_get : ∀ {ks : List Nat} {k : Nat} {Γ : Ctx} {i : Nat} {s : Sl}, (keepC ks k Γ)[i]? = some (some s) → (k + i) ∈ ks ∧ ((∃ x, s = .d x ∧ (Γ[i]? = some (some (.o x)) ∨ Γ[i]? = some (some (.d x)))) ∨ (Γ[i]? = some (some s) ∧ ((∃ c, s = .ex c) ∨ (∃ ns, s = .sc ns) ∨ ∃ o, s = .xo o)))
  | ks, k, [], i, s, h => by unfold keepC at h; simp at h
  | ks, k, t :: Γ, 0, s, h => by
    unfold keepC at h
    simp only [List.getElem?_cons_zero, Option.some.injEq] at h
    split at h
    · rename_i hc
      refine ⟨by simpa using hc, ?_⟩
      split at h
      · cases h; exact .inl ⟨_, rfl, .inl rfl⟩
      · cases h; exact .inl ⟨_, rfl, .inr rfl⟩
      · cases h; exact .inr ⟨rfl, .inl ⟨_, rfl⟩⟩
      · cases h; exact .inr ⟨rfl, .inr (.inl ⟨_, rfl⟩)⟩
      · cases h; exact .inr ⟨rfl, .inr (.inr ⟨_, rfl⟩)⟩
      · cases h
    · cases h
  | ks, k, t :: Γ, i + 1, s, h => by
    unfold keepC at h
    have := keepC_get (ks := ks) (k := k + 1) (Γ := Γ) (i := i) (s := s) (by simpa using h)
    have e : k + 1 + i = k + (i + 1) := by omega
    rw [e] at this
    simpa using this
theorem keepC_len : ∀ (ks : List Nat) (k : Nat) (Γ : Ctx), (keepC ks k Γ).length = Γ.length
  | _, _, [] => rfl
  | ks, k, _ :: Γ => by unfold keepC; simp [keepC_len ks (k + 1) Γ]
/-- frozen, truly -/
theorem fz_at {e : VL.Env} {k : Nat} {p : PyData × VL.Env} (h : fz e (.s k) = some p) : at? p.2 k = some (.fr p.1) ∧ ∀ i, i ≠ k → at? p.2 i = at? e i := by
  unfold fz at h
  dsimp only at h
  split at h
  · rename_i d q; cases h; exact ⟨q, fun _ _ => rfl⟩
  · rename_i d q; cases h; exact ⟨at_set_same q, fun i hi => at_set_ne (Ne.symm hi)⟩
  · rename_i d q; cases h; exact ⟨at_set_same q, fun i hi => at_set_ne (Ne.symm hi)⟩
  · rename_i t q
    obtain ⟨d, _, rfl⟩ := Option.map_eq_some_iff.mp h
    exact ⟨at_set_same q, fun i hi => at_set_ne (Ne.symm hi)⟩
  · cases h
theorem fzSlots_fix : ∀ (ks : List Nat) (e : VL.Env) (i : Nat) (d : PyData), at? e i = some (.fr d) → at? (fzSlots ks e) i = some (.fr d)
  | [], e, i, d, h => h
  | k :: r, e, i, d, h => by
    unfold fzSlots
    split
    · rename_i p q
      refine fzSlots_fix r _ i d ?_
      obtain ⟨h1, h2⟩ := fz_at q
      by_cases hi : i = k
      · subst hi
        unfold fz at q
        dsimp only at q
        rw [h] at q
        cases q
        exact h
      · rw [h2 i hi]; exact h
    · exact fzSlots_fix r e i d h
theorem fzSlots_other : ∀ (ks : List Nat) (e : VL.Env) (i : Nat) (b : B), (b.dat = none ∧ ∀ t, b ≠ .tr t) → at? e i = some b → at? (fzSlots ks e) i = some b
  | [], e, i, b, _, h => h
  | k :: r, e, i, b, hb, h => by
    unfold fzSlots
    split
    · rename_i p q
      refine fzSlots_other r _ i b hb ?_
      obtain ⟨h1, h2⟩ := fz_at q
      by_cases hi : i = k
      · subst hi
        unfold fz at q
        dsimp only at q
        rw [h] at q
        cases b <;> first | (cases hb.1; done) | (simp at q; done) | exact absurd rfl (hb.2 _)
      · rw [h2 i hi]; exact h
    · exact fzSlots_other r e i b hb h
theorem fzSlots_dat : ∀ (ks : List Nat) (e : VL.Env) (i : Nat) (x : PyData), (at? e i).bind B.dat = some x → (at? (fzSlots ks e) i).bind B.dat = some x ∧ (i ∈ ks → at? (fzSlots ks e) i = some (.fr x))
  | [], e, i, x, h => ⟨h, nofun⟩
  | k :: r, e, i, x, h => by
    unfold fzSlots
    by_cases hk : i = k
    · subst hk
      have : ∃ p, fz e (.s i) = some p ∧ p.1 = x := by
        unfold fz
        dsimp only
        cases q : at? e i with
        | none => rw [q] at h; cases h
        | some b =>
          rw [q] at h
          cases b with
          | fr d => cases h; exact ⟨_, rfl, rfl⟩
          | ow d => cases h; exact ⟨_, rfl, rfl⟩
          | od d => cases h; exact ⟨_, rfl, rfl⟩
          | ex c => cases h
          | rs k d => cases h
          | tr t => cases h
          | sc ns => cases h
      obtain ⟨p, q, rfl⟩ := this
      rw [q]
      obtain ⟨h1, _⟩ := fz_at q
      have := fzSlots_fix r p.2 i p.1 h1
      dsimp only
      rw [this]
      exact ⟨rfl, fun _ => rfl⟩
    · split
      · rename_i p q
        obtain ⟨h1, h2⟩ := fz_at q
        obtain ⟨g1, g2⟩ := fzSlots_dat r p.2 i x (by rw [h2 i hk]; exact h)
        exact ⟨g1, fun z => g2 ((List.mem_cons.mp z).resolve_left hk)⟩
      · obtain ⟨g1, g2⟩ := fzSlots_dat r e i x h
        exact ⟨g1, fun z => g2 ((List.mem_cons.mp z).resolve_left hk)⟩
end TM
namespace TM
open PySem L2 VL PySem.W Datum
def asLIY (ds : List PyData) : Option (List Int) := asInts ds
theorem asLIY_eq {ds : List PyData} (a : List Int) (h : asLIY ds = some a) : PyData.list (ds.map idD) = toD a := by rw [mapId, asInts_eq h]; rfl
section
variable {Γ Γ' : Ctx} {α β γ : Type} {m : R α} {po : α → PO} {C : KC} {x y : PyData} {i : Nat} {b : Option B}
theorem j_cast' {z : γ} {E : PyData} {g : γ → Option β} {D : β → PyData} {mk : β → R α} (hf : ∀ a, g z = some a → E = D a) (k : ∀ a, E = D a → J Γ C (mk a) po) : J Γ C (ob (g z) mk) po := j_ob fun a ha => k a (hf a ha)
/-- a name known to be of a kind from here on -/
theorem j_castS {z : γ} {g : γ → Option β} {D : β → PyData} {mk : β → R α} (hΓ : Γ[i]? = some (some (.d y))) (hf : ∀ a, g z = some a → y = D a) (k : ∀ a, J (Γ.set i (some (.d (D a)))) C (mk a) po) : J Γ C (ob (g z) mk) po := j_ob fun a ha => (k a).to fun e he => ⟨e, by
  have h := he.hold i _ hΓ
  rw [hf a ha] at h
  have := he.set (i := i) (s := .d (D a)) (b := at? e i) h
  rwa [set_same rfl] at this, rfl⟩
end
end TM
namespace TM
open PySem L2 VL PySem.W Datum
section
variable {Γ Γ' : Ctx} {α : Type} {m : R α} {po : α → PO} {C : KC} {i : Nat}
theorem s_asS {y : PyData} {mk : Str → R α} (hΓ : Γ[i]? = some (some (.d y))) (k : ∀ a : Str, J (Γ.set i (some (.d (toD a)))) C (mk a) po) : J Γ C (ob (asS y) mk) po := j_castS (D := fun a : Str => toD a) hΓ asS_eq k
theorem c_asLI {y : PyData} {mk : List Int → R α} (k : ∀ a : List Int, y = toD a → J Γ C (mk a) po) : J Γ C (ob (asLI y) mk) po := j_cast' (D := fun a : List Int => toD a) asLI_eq k
theorem s_asLY {y : PyData} {mk : List PyData → R α} (hΓ : Γ[i]? = some (some (.d y))) (k : ∀ a : List PyData, J (Γ.set i (some (.d (PyData.list (a.map idD))))) C (mk a) po) : J Γ C (ob (asLY y) mk) po := j_castS (D := fun a : List PyData => PyData.list (a.map idD)) hΓ asLY_eq k
theorem c_asLY {y : PyData} {mk : List PyData → R α} (k : ∀ a : List PyData, y = PyData.list (a.map idD) → J Γ C (mk a) po) : J Γ C (ob (asLY y) mk) po := j_cast' (D := fun a : List PyData => PyData.list (a.map idD)) asLY_eq k
theorem s_asLIY {ds : List PyData} {mk : List Int → R α} (hΓ : Γ[i]? = some (some (.d (PyData.list (ds.map idD))))) (k : ∀ a : List Int, J (Γ.set i (some (.d (toD a)))) C (mk a) po) : J Γ C (ob (asLIY ds) mk) po := j_castS (D := fun a : List Int => toD a) hΓ asLIY_eq k
end
end TM
set_option maxRecDepth 100000
namespace TM
open PySem L2 VL PySem.W Datum
def lenS (z : Str) : Option Int := if z.length ≤ big then some (z.length : Int) else none
theorem x_lenS {z : Str} (a : Int) (h : lenS z = some a) : gLen [toD z] = some (.fr (toD a)) := by
  unfold lenS at h
  split at h
  · rename_i q
    cases h
    show (if z.length ≤ big then some (B.fr (.int z.length)) else none) = _
    rw [if_pos q]
    rfl
  · cases h
def addS (a b : Str) : Option Str := if a.length + b.length ≤ big then some (a ++ b) else none
theorem x_addS {a b : Str} : OpR oAdd (toD a) (toD b) (addS a b) fun z => .fr (toD z) := fun z hz => by
  unfold addS at hz
  split at hz
  · rename_i q
    cases hz
    show (if a.length + b.length ≤ big then some (B.fr (.str (a ++ b))) else none) = _
    rw [if_pos q]
    rfl
  · cases hz
def ixS (z : Str) (i : Int) : Option Str := if z.length ≤ big then (atI z.cps.toList i).map fun c => ⟨#[c]⟩ else none
theorem x_ixS {z : Str} {i : Int} : OpR oIx (toD z) (toD i) (ixS z i) fun s => .fr (toD s) := fun s hs => by
  unfold ixS at hs
  split at hs
  · rename_i q
    show (if z.length ≤ big then (atI z.cps.toList i).map fun c => B.fr (.str ⟨#[c]⟩) else none) = _
    rw [if_pos q]
    cases h : atI z.cps.toList i with
    | none => rw [h] at hs; cases hs
    | some c => rw [h] at hs; cases hs; rfl
  · cases hs
def slS (z : Str) (lo hi : Option Int) : Option Str := if z.length ≤ big then some (cutS z lo hi) else none
theorem x_slS {z : Str} {lo hi : Option Int} (a : Str) (h : slS z lo hi = some a) : oSl (toD z) lo hi = some (.fr (toD a)) := by
  unfold slS at h
  split at h
  · rename_i q
    cases h
    show (if z.length ≤ big then some (B.fr (.str (cutS z lo hi))) else none) = _
    rw [if_pos q]
    rfl
  · cases h
instance : Lay (Option Int) := ⟨fun o => by
  cases o with
  | none => show PyData.none.canLay0 = true; rw [PyData.canLay0]
  | some i => show (PyData.int _).canLay0 = true; rw [PyData.canLay0], by decide⟩
end TM
set_option maxRecDepth 100000
namespace TM
open PySem L2 VL PySem.W Datum
theorem j_re {Γ Γ' : Ctx} {α : Type} {m : R α} {po : α → PO} {C : KC} (h : Γ = Γ') (k : J Γ' C m po) : J Γ C m po := h ▸ k
end TM
set_option maxRecDepth 100000
namespace TM
open PySem L2 VL PySem.W Datum
end TM
set_option maxRecDepth 100000
namespace TM
open PySem L2 VL PySem.W Datum PyProof.Rows
instance : Lay (Int × List (List Int)) := ⟨fun p => by
  show (PyData.tuple [.int p.1, toD p.2]).canLay0 = true
  rw [PyData.canLay0, PyData.canLayAll0, PyData.canLayAll0, PyData.canLayAll0, Lay.lay p.2]
  simp [PyData.canLay0], by decide⟩
instance : Lay (List (Int × List (List Int))) := ⟨lay_lst, by decide⟩
class Alk (α : Type) [DecidableEq α] [Datum α] : Prop where
  alk : ∀ a b : α, alike (Datum.toD a) (Datum.toD b) = true
instance : Alk Int := ⟨fun _ _ => rfl⟩
theorem alikeAll_map {α : Type} [DecidableEq α] [Datum α] [Alk α] : ∀ xs ys : List α, alikeAll (xs.map Datum.toD) (ys.map Datum.toD) = true
  | [], _ => by rw [List.map_nil, alikeAll]
  | _ :: _, [] => by rw [List.map_nil, List.map_cons, alikeAll]
  | x :: xs, y :: ys => by
    rw [List.map_cons, List.map_cons, alikeAll, Alk.alk x y, alikeAll_map xs ys]
    rfl
instance {α : Type} [DecidableEq α] [Datum α] [Alk α] : Alk (List α) := ⟨fun xs ys => by
  show alike (.list _) (.list _) = true
  rw [alike]
  exact alikeAll_map xs ys⟩
instance {α β : Type} [DecidableEq α] [Datum α] [Alk α] [DecidableEq β] [Datum β] [Alk β] : Alk (α × β) := ⟨fun p q => by
  show alike (.tuple [toD p.1, toD p.2]) (.tuple [toD q.1, toD q.2]) = true
  rw [alike, alikeAll, Alk.alk p.1 q.1, alikeAll, Alk.alk p.2 q.2, alikeAll]
  rfl⟩
variable {τ : Type} [DecidableEq τ] [Datum τ] [Alk τ] [Lay τ] [Lay (Int × τ)]
end TM
set_option maxRecDepth 100000
namespace TM
open PySem L2 VL PySem.W Datum PyProof.Rows
end TM
set_option maxRecDepth 100000
namespace TM
open PySem L2 VL PySem.W PySem.SeqAt
open PySem.W.Datum (toD)
end TM
set_option maxRecDepth 100000
namespace TM
open PySem L2 VL PySem.W PySem.SeqAt
open PySem.W.Datum (toD)
end TM
set_option maxRecDepth 100000
namespace TM
open PySem L2 VL PySem.W PySem.SeqAt
open PySem.W.Datum (toD)
variable {Γ Γ' Γ1 Γ2 Γl Γk : Ctx} {α β σ τ γ δ υ : Type} {m : R α} {po : α → PO} {K : O → KC} {C : KC} {F rest : FS} {l ks : List Nat}
/-- with an end within -/
def Fl.outL (g : β → R α) (k : R α) : Fl σ β → R α
  | .nx _ => k
  | .bk _ => .no
  | .rt b => g b
@[simp] theorem outL_nx {g : β → R α} {k : R α} {s : σ} : Fl.outL g k (.nx s : Fl σ β) = k := rfl
@[simp] theorem outL_rt {g : β → R α} {k : R α} {b : β} : Fl.outL g k (.rt b : Fl σ β) = g b := rfl
end TM
set_option maxRecDepth 100000
namespace TM
open PySem L2 VL PySem.W PySem.SeqAt
open PySem.W.Datum (toD)
end TM
set_option maxRecDepth 100000
namespace TM
open PySem L2 VL PySem.W PySem.SeqAt
open PySem.W.Datum (toD)
variable {Γ Γ' Γ1 : Ctx} {α β σ τ υ : Type} {m m1 m2 : R α} {po : α → PO} {K : O → KC} {C : KC} {i : Nat} {b : B} {o1 o2 : O} {x y : PyData} {fc : FE}
instance : Lay (Int × Int) := ⟨fun p => by
  obtain ⟨a, b⟩ := p
  rfl, by decide⟩
end TM
set_option maxRecDepth 100000
namespace TM
open PySem L2 VL PySem.W PySem.SeqAt
open PySem.W.Datum (toD)
end TM
set_option maxRecDepth 100000
namespace TM
open PySem L2 VL PySem.W Datum
end TM
set_option maxRecDepth 100000
namespace TM
open PySem L2 VL PySem.W Datum
def strS (d : PyData) : Option Str := match oStr d with
  | some (.fr (.str x)) => some x
  | _ => none
theorem x_strA {y : PyData} (a : Str) (h : strS y = some a) : oStr y = some (.fr (toD a)) := by
  unfold strS at h
  split at h
  · rename_i q
    cases h
    exact q
  · cases h
end TM
set_option maxRecDepth 100000
namespace TM
open PySem L2 VL PySem.W PySem.SeqAt
open PySem.W.Datum (toD)
end TM
set_option maxRecDepth 100000
namespace TM
open PySem L2 VL PySem.W Datum
end TM
set_option maxRecDepth 100000
namespace TM
open PySem L2 VL PySem.W PySem.SeqAt
open PySem.W.Datum (toD)
end TM
set_option maxRecDepth 100000
namespace TM
open PySem L2 VL PySem.W PySem.SeqAt
open PySem.W.Datum (toD)
variable {Γ Γ' Γ1 : Ctx} {α β σ τ υ : Type} {m : R α} {po : α → PO} {K : O → KC} {C : KC} {F : Fn} {n : Nat} {r : FA} {y : PyData}
theorem x_isNY : oIs y (toD ()) = some (.fr (toD (isNone y))) := by
  show oIs y .none = _
  cases y <;> rfl
end TM
set_option maxRecDepth 100000
namespace TM
open PySem L2 VL PySem.W Datum
def cStr (o : O) (K : Str → KC) : KC := fun e => match res e o with
  | some (.str a) => K a e
  | _ => none
section
variable {Γ : Ctx} {α β : Type} {m : R α} {po : α → PO} {K : O → KC} {fx fa : FE} {o : O}
theorem j_m1 {op : Str → PyData → Option B} (k : J Γ (cX fx fun o => cStr o fun a => cX fa fun o2 => cUn (op a) o2 K) m po) : J Γ (cX (fM1 op fx fa) K) m po := k.eq (funext fun e => by
  show bndS (bnd (fx e) fun o e1 => match res e1 o with
    | some (.str a) => bnd (fa e1) fun o2 e2 => (res e2 o2).bind fun y => (op a y).bind fun z => some (Out.ok (O.b z) e2)
    | _ => none) K = _
  rw [bndS_bnd]
  refine congrArg _ (funext fun a => funext fun e1 => ?_)
  unfold cStr
  split
  · show bndS (bnd (fa e1) _) K = _
    rw [bndS_bnd]
    refine congrArg _ (funext fun b => funext fun e2 => ?_)
    rw [bndS_ob]
    refine congrArg _ (funext fun _ => ?_)
    rw [bndS_ob]
    rfl
  · rfl)
theorem j_str {x : Str} {K : Str → KC} (h : Rd Γ o (toD x)) (k : J Γ (K x) m po) : J Γ (cStr o K) m po := k.to fun e he => ⟨e, he, by
  unfold cStr
  rw [h e he]
  rfl⟩
end
theorem asStrs_map : ∀ ys : List Str, asStrs (ys.map toD) = some ys
  | [] => rfl
  | y :: ys => by
    show (asStrs (ys.map toD)).map (y :: ·) = _
    rw [asStrs_map ys]
    rfl
def joinS (a : Str) (ys : List Str) : Option Str := if (ys.map (·.length)).sum + ys.length * a.length ≤ big then some (Str.join a ys) else none
theorem x_join {s : Str} {ys : List Str} (a : Str) (h : joinS s ys = some a) : mJoin s (toD ys) = some (.fr (toD a)) := by
  unfold joinS at h
  split at h
  · rename_i q
    cases h
    show (asStrs (ys.map toD)).bind _ = _
    rw [asStrs_map]
    show (if _ then _ else _) = _
    rw [if_pos q]
    rfl
  · cases h
def splitS (a b : Str) : Option (List Str) := if (b.length == 0) = false ∧ a.length + 2 ≤ big then some (Txt.split a b) else none
theorem x_split {s b : Str} (a : List Str) (h : splitS s b = some a) : mSplit s (toD b) = some (bow (toD a)) := by
  unfold splitS at h
  split at h
  · rename_i q
    cases h
    show (if _ then _ else _) = _
    rw [if_pos q]
    rfl
  · cases h
def intS (a : Str) : Option Int := if a.length ≤ 640 then PySem.intText? a else none
theorem x_intS {s : Str} (a : Int) (h : intS s = some a) : gIntS [toD s] = some (.fr (toD a)) := by
  unfold intS at h
  split at h
  · rename_i q
    show (if s.length ≤ 640 then (PySem.intText? s).map fun n => B.fr (.int n) else none) = _
    rw [if_pos q, h]
    rfl
  · cases h
def notInS (a z : Str) : Option Bool := if a.cps.size = 1 then some (!decide (a.cps.getD 0 0 ∈ z.cps.toList)) else none
theorem x_notInS {a z : Str} : OpR oNotIn (toD a) (toD z) (notInS a z) fun b => .fr (toD b) := fun b hb => by
  unfold notInS at hb
  split at hb
  · rename_i q
    cases hb
    show (if a.cps.size = 1 then some (B.fr (.bool (!decide (a.cps.getD 0 0 ∈ z.cps.toList)))) else none) = _
    rw [if_pos q]
    rfl
  · cases hb
def signs (z : Str) : List Str := z.cps.toList.map fun c => ⟨#[c]⟩
theorem selS_signs (z : Str) : selS (toD z) = some ((signs z).map toD) := by
  show some (z.cps.toList.map fun c => PyData.str ⟨#[c]⟩) = _
  unfold signs
  rw [List.map_map]
  rfl
end TM
set_option maxRecDepth 100000
namespace TM
open PySem L2 VL PySem.W PySem.SeqAt
open PySem.W.Datum (toD)
variable {Γ : Ctx} {α β σ : Type} {i j : Nat} {l : List Nat} {rest : FS} {po : α → PO}
def trySp (cs : List Str) (m : R β) (k : β → R α) (h : Str → R α) : R α := match m with
  | .no => .no
  | .ok a => k a
  | .ex c => if c ∈ cs then h c else .no
theorem cov_fz {keep : List Nat} {Γ0 : Ctx} {e : VL.Env} (h0 : keepC keep 0 Γ = Γ0) (he : Cov Γ e) : Cov Γ0 (fzSlots keep e) := by
  have hl : e.length = Γ.length := he.len
  refine ⟨by rw [fzSlots_len, ← h0, keepC_len, hl], fun k s hs => ?_⟩
  rw [← h0] at hs
  obtain ⟨hk, q⟩ := keepC_get hs
  rcases q with ⟨x, rfl, q | q⟩ | ⟨q, q2⟩
  · exact (fzSlots_dat keep e k x (Sl.weak (he.hold k _ q))).1
  · exact (fzSlots_dat keep e k x (he.hold k _ q)).1
  · have h1 := he.hold k _ q
    rcases q2 with ⟨c, rfl⟩ | ⟨ns, rfl⟩ | ⟨o, rfl⟩
    · exact fzSlots_other keep e k _ ⟨rfl, nofun⟩ h1
    · exact fzSlots_other keep e k _ ⟨rfl, nofun⟩ h1
    · have h2 : at? e k = some (xB o) := h1
      cases o with
      | none => exact fzSlots_fix keep e k _ h2
      | some c => exact fzSlots_other keep e k _ ⟨rfl, nofun⟩ h2
theorem cov_keep {keep : List Nat} {Γ0 : Ctx} {e : VL.Env} (h0 : keepC keep 0 Γ = Γ0) (he : Cov Γ e) : Cov Γ0 (keepFr keep (fzSlots keep e)) := by
  have c0 := cov_fz h0 he
  have lk : (keepFr keep (fzSlots keep e)).length = Γ0.length := by unfold keepFr; rw [List.length_map, List.length_range, c0.len]
  refine ⟨lk, fun k s hs => ?_⟩
  have hs' := hs
  rw [← h0] at hs
  obtain ⟨hk, q⟩ := keepC_get hs
  rw [Nat.zero_add] at hk
  have hlt : k < (fzSlots keep e).length := by rw [c0.len]; exact (List.getElem?_eq_some_iff.mp hs').1
  have at1 : at? (keepFr keep (fzSlots keep e)) k = fixed (at? (fzSlots keep e) k) := by
    unfold keepFr
    unfold at?
    rw [List.getElem?_map, List.getElem?_range hlt]
    simp only [Option.map_some]
    rw [if_pos hk]
  rw [at1]
  rcases q with ⟨x, rfl, q | q⟩ | ⟨q, q2⟩
  · rw [(fzSlots_dat keep e k x (Sl.weak (he.hold k _ q))).2 hk]; rfl
  · rw [(fzSlots_dat keep e k x (he.hold k _ q)).2 hk]; rfl
  · have h1 := c0.hold k _ hs'
    rcases q2 with ⟨c, rfl⟩ | ⟨ns, rfl⟩ | ⟨o, rfl⟩
    · rw [show at? (fzSlots keep e) k = some (.ex c) from h1]; rfl
    · rw [show at? (fzSlots keep e) k = some (.sc ns) from h1]; rfl
    · rw [show at? (fzSlots keep e) k = some (xB o) from h1]
      show fixed (some (xB o)) = some (xB o)
      cases o <;> rfl
/-- what follows, told apart: with all that the suite has set, or with the error -/
theorem j_tryS {cs : List Str} {keep : List Nat} {fb : FS} {m1 : R β} {k1 : β → R α} {k2 : Str → R α} {Γ0 : Ctx} {Γn Γm : β → Ctx} (h0 : keepC keep 0 Γ = Γ0) (hi' : decide (i < Γ.length) = true) (hik : i ∉ keep)
    (hb : J Γ0 fb m1 fun a => .nx (Γn a)) (hn : ∀ a, restr l (Γn a) = Γm a) (hj : ∀ a, (Γm a)[j]? = some (some (.d .none)))
    (kk1 : ∀ a, J ((Γm a).set j (some (.xo none))) rest (k1 a) po) (kk2 : ∀ c, J (Γ0.set j (some (.xo (some c)))) rest (k2 c) po) : J Γ (sSeq (sTryC i j cs keep fb) rest) (trySp cs m1 k1 k2) po := fun e he => by
  have hi : i < Γ.length := of_decide_eq_true hi'
  have hl : e.length = Γ.length := he.len
  have c0 := cov_fz h0 he
  have ck := cov_keep h0 he
  have h1 := hb _ c0
  have e0 : sSeq (sTryC i j cs keep fb) rest e = (match (match fb (fzSlots keep e) with
    | some (.ex c _) => if c ∈ cs ∧ i < e.length ∧ i ∉ keep then some (SO.nx ((keepFr keep (fzSlots keep e)).set j (some (B.ex c)))) else none
    | r => r) with
    | some (.nx e1) => rest e1
    | r => r) := rfl
  cases m1 with
  | no => trivial
  | ok a =>
    obtain ⟨w, q, e1, rfl, c1⟩ := h1
    rw [q] at e0
    have c2 := c1.of (hn a)
    have c3 := c2.set (i := j) (s := .xo none) (b := at? e1 j) (by
      have z : (at? e1 j).bind B.dat = some .none := c2.hold j _ (hj a)
      show at? e1 j = some (.fr .none)
      cases q2 : at? e1 j with
      | none => rw [q2] at z; cases z
      | some b =>
        rw [q2] at z
        cases b <;> first | (cases z; rfl) | cases z)
    rw [set_same rfl] at c3
    rw [e0]
    exact kk1 a e1 c3
  | ex c =>
    obtain ⟨e1, q⟩ := h1
    rw [q] at e0
    have e2 : trySp cs (R.ex c) k1 k2 = if c ∈ cs then k2 c else R.no := rfl
    rw [e2]
    by_cases hc : c ∈ cs
    · rw [if_pos hc]
      have e3 : (if c ∈ cs ∧ i < e.length ∧ i ∉ keep then some (SO.nx ((keepFr keep (fzSlots keep e)).set j (some (B.ex c)))) else none) = some (SO.nx ((keepFr keep (fzSlots keep e)).set j (some (B.ex c)))) := if_pos ⟨hc, by rw [hl]; exact hi, hik⟩
      dsimp only at e0
      rw [e3] at e0
      rw [e0]
      exact kk2 c _ (ck.set (s := .xo (some c)) (b := some (.ex c)) rfl)
    · rw [if_neg hc]
      trivial
end TM
set_option maxRecDepth 100000
namespace TM
open PySem L2 VL PySem.W PySem.SeqAt
open PySem.W.Datum (toD)
end TM
set_option maxRecDepth 100000
namespace TM
open PySem L2 VL PySem.W PySem.SeqAt Datum
end TM
set_option maxRecDepth 100000
namespace TM
open PySem L2 VL PySem.W PySem.SeqAt Datum
end TM
set_option maxRecDepth 100000
namespace TM
open PySem L2 VL PySem.W PySem.SeqAt Datum
end TM
set_option maxRecDepth 100000
namespace TM
open PySem L2 VL PySem.W PySem.SeqAt Datum
instance : Lay (List (Int × Int)) := ⟨lay_lst, by decide⟩
instance : Lay (Option (List Int)) := ⟨fun o => by
  cases o with
  | none => rfl
  | some l => exact Lay.lay l, by decide⟩
variable {Γ : Ctx} {α τ : Type} {po : α → PO} {K : O → KC} {i : Nat} {m0 : R α}
end TM
set_option maxRecDepth 100000
namespace TM
open PySem L2 VL PySem.W PySem.SeqAt Datum
variable {Γ Γ' : Ctx} {α β : Type} {m : R α} {po : α → PO} {K : O → KC} {KI : List PyData → KC} {fa : FE} {x : PyData} {i : Nat}
variable {κ υ : Type} [DecidableEq κ] [Datum κ] [DecidableEq υ] [Datum υ]
instance : Lay (Int × List Int) := ⟨fun p => by
  show (PyData.tuple [.int p.1, toD p.2]).canLay0 = true
  rw [PyData.canLay0, PyData.canLayAll0, PyData.canLayAll0, PyData.canLayAll0, Lay.lay p.2]
  simp [PyData.canLay0], by decide⟩
instance : Lay (List (Int × List Int)) := ⟨lay_lst, by decide⟩
end TM
set_option maxRecDepth 100000
namespace TM
open PySem L2 VL PySem.W PySem.SeqAt Datum
end TM
set_option maxRecDepth 100000
namespace TM
open PySem L2 VL PySem.W PySem.SeqAt Datum
end TM
set_option maxRecDepth 100000
namespace TM
open PySem L2 VL PySem.W PySem.SeqAt Datum
end TM
set_option maxRecDepth 100000
namespace TM
open PySem L2 VL PySem.W PySem.SeqAt Datum PyProof.Rows
end TM
set_option maxRecDepth 100000
namespace TM
open PySem L2 VL PySem.W PySem.SeqAt Datum
end TM
set_option maxRecDepth 100000
namespace TM
open PySem L2 VL PySem.W PySem.SeqAt Datum PyProof.Rows
instance : Lay (Option (Int × List Int)) := ⟨fun o => by
  cases o with
  | none => rfl
  | some a => exact Lay.lay a, by decide⟩
end TM
set_option maxRecDepth 100000
namespace VL
open PySem L2 PySem.Spec PyProof.Rows
open PySem.SeqAt (shaped)
open PySem.W (minD)
end VL
set_option maxRecDepth 100000
namespace VL
open PySem L2
end VL
set_option maxRecDepth 100000
namespace TM
open PySem L2 VL PySem.W PySem.SeqAt Datum
end TM
set_option maxRecDepth 100000
namespace VL
open PySem L2 PySem.Spec PyProof.Rows
end VL
set_option maxRecDepth 100000
namespace VL
open PySem L2
end VL
set_option maxRecDepth 100000
namespace VL
open PySem L2
/-- a method that may be called -/
structure CalM (X : Cx) (ρ : Nat → Res) (c m : Str) (n : Nat) (ms : List Nat) (F : Fn) (k : Nat) : Prop where
  ex : ∃ A f fd ps, X.mg c = some (.ref A) ∧ Cls X.K A ∧ Meth X.K A m f ∧ FnG X.prog X.w X.K X.mg X.base k f fd ps (spV (cc X ρ) n ms F) ∧ Binds X.K fd ps []
/-- a class that may be made -/
structure CalC (X : Cx) (ρ : Nat → Res) (c : Str) (n : Nat) (F : Fn) (k : Nat) : Prop where
  ex : ∃ A f fd ps, X.mg c = some (.ref A) ∧ Cls X.K A ∧ Mk X.K A f ∧ FnG X.prog X.w X.K X.mg X.base k f fd ps (spV (cc X ρ) (n + 1) [0] F) ∧ Binds X.K fd ps []
end VL
set_option maxRecDepth 100000
namespace VL
open PySem L2
end VL
set_option maxRecDepth 100000
namespace VL
open PySem L2 PySem.Spec PyProof.Rows
section
variable {P : Program} {w : World} {K : PySem.W.Frag} {mg : Str → Option Value} {base : Heap} {ρ : Nat → Res}
structure CalN (P : Program) (w : World) (K : PySem.W.Frag) (mg : Str → Option Value) (base : Heap) (ρ : Nat → Res) (c m : Str) (n : Nat) (ms : List Nat) (F : Fn) (k : Nat) : Prop where
  ex : ∃ A f fd ps, mg c = some (.ref A) ∧ Cls K A ∧ Meth K A m f ∧ FnG P w K mg base k f fd ps (spV ⟨K, mg, ρ⟩ n ms F) ∧ Binds K fd ps []
theorem CalN.c {X : Cx} {c m : Str} {n : Nat} {ms : List Nat} {F : Fn} {k : Nat} (h : CalN X.prog X.w X.K X.mg X.base ρ c m n ms F k) : CalM X ρ c m n ms F k := ⟨h.ex⟩
structure CalI (P : Program) (w : World) (K : PySem.W.Frag) (mg : Str → Option Value) (base : Heap) (ρ : Nat → Res) (c : Str) (n : Nat) (F : Fn) (k : Nat) : Prop where
  ex : ∃ A f fd ps, mg c = some (.ref A) ∧ Cls K A ∧ Mk K A f ∧ FnG P w K mg base k f fd ps (spV ⟨K, mg, ρ⟩ (n + 1) [0] F) ∧ Binds K fd ps []
theorem CalI.c {X : Cx} {c : Str} {n : Nat} {F : Fn} {k : Nat} (h : CalI X.prog X.w X.K X.mg X.base ρ c n F k) : CalC X ρ c n F k := ⟨h.ex⟩
end
end VL
set_option maxRecDepth 100000
namespace VL
open PySem L2
/-- a Lister's attributes -/
def lsF : List Str := ["way", "things", "far", "held", "deeds"]
end VL
set_option maxRecDepth 100000
namespace VL
open PySem L2
end VL
set_option maxRecDepth 100000
namespace VL
open PySem L2
end VL
set_option maxRecDepth 100000
namespace VL
open PySem L2
end VL
set_option maxRecDepth 100000
namespace VL
open PySem L2
end VL
set_option maxRecDepth 100000
namespace TM
open PySem L2 VL PySem.W PySem.SeqAt
open PySem.W.Datum (toD)
/-- a Lister, by its attributes -/
structure Ls where
  way : Str
  things : Int
  far : Int
  held : List (List Int)
  deeds : List (Bool × List Int)
def Ls.tr (s : Ls) : Tr := .nd (.ins "Lister" lsF) [.fr (toD s.way), .fr (toD s.things), .fr (toD s.far), .nd .lst ((s.held.map toD).map .fr), .nd .lst ((s.deeds.map toD).map .fr)]
instance : Lay (Bool × List Int) := ⟨fun p => by
  show (PyData.tuple [.bool p.1, toD p.2]).canLay0 = true
  rw [PyData.canLay0, PyData.canLayAll0, PyData.canLayAll0, PyData.canLayAll0, Lay.lay p.2]
  simp [PyData.canLay0], by decide⟩
instance : Lay (List (Bool × List Int)) := ⟨lay_lst, by decide⟩
variable {Γ Γ' Γ1 Γ2 Γl : Ctx} {α β σ τ γ δ υ : Type} {m : R α} {po : α → PO} {K : O → KC} {C : KC} {o o1 o2 o3 : O} {x y : PyData} {b z : B} {i j n q : Nat} {f fa fb fc fx fy fv : FE} {fd : FD} {t : FT} {rest A : FS} {fi : FI} {l vs : List Nat} {a : α} {c mn : Str} {fs gs : List Str} {ts : List Tr} {ds : List PyData} {F : Fn} {r : FA} {mi : List (Nat × Nat)}
end TM
set_option maxRecDepth 100000
namespace TM
open PySem L2 VL PySem.W PySem.SeqAt
open PySem.W.Datum (toD)
variable {Γ Γ' Γ1 Γ2 Γl : Ctx} {α β σ τ γ δ υ : Type} {m : R α} {po : α → PO} {t : FT} {n : Nat} {l : List Nat}
theorem flat_oi (o : Option Int) : isFlat (toD o) = true := by cases o <;> rfl
end TM
set_option maxRecDepth 100000
namespace TM
open PySem L2 VL PySem.W PySem.SeqAt
open PySem.W.Datum (toD)
variable {Γ Γ' Γ1 : Ctx} {α β σ τ : Type} {m : R α} {po : α → PO} {K : O → KC} {f : FE} {rest : FS}
instance : Lay (List (Option Int)) := ⟨lay_lst, by decide⟩
end TM
set_option maxRecDepth 100000
namespace VL
open PySem L2 PySem.Spec PyProof.Rows
end VL
set_option maxRecDepth 100000
namespace TM
open PySem L2 VL PySem.W PySem.SeqAt
open PySem.W.Datum (toD)
end TM
set_option maxRecDepth 100000
namespace VL
open PySem L2 PySem.Spec PyProof.Rows
end VL
set_option maxRecDepth 100000
namespace VL
open PySem L2 PySem.Spec PyProof.Rows
end VL
set_option maxRecDepth 100000
namespace TM
open PySem L2 VL PySem.W PySem.SeqAt Datum
end TM
set_option maxRecDepth 100000
namespace TM
open PySem L2 VL PySem.W PySem.SeqAt
open PySem.W.Datum (toD)
end TM
set_option maxRecDepth 100000
namespace TM
open PySem L2 VL PySem.W PySem.SeqAt
open PySem.W.Datum (toD)
end TM
set_option maxRecDepth 100000
namespace VL
open PySem PySem.Spec PyProof.Rows PySem.Calls PySem.SeqAt L2
end VL
set_option maxRecDepth 100000
namespace TM
open PySem L2 VL PySem.W PySem.SeqAt Datum
end TM
set_option maxRecDepth 100000
namespace VL
open PySem L2 PySem.Spec PyProof.Rows PySem.Calls
section
variable {X : Cx} {ρ : Nat → Res} {W : WX}
theorem RpDT.at {K : PySem.W.Frag} {G : Hp} : ∀ {ks : List (List Key × V)} {ds : DKv}, RpDT K G ks ds → ∀ {i : Nat} {k : List Key} {v : V}, ks[i]? = some (k, v) → ∃ d, (kPT k, d) ∈ ds
  | _, _, .nil, _, _, _, h => by simp at h
  | _, _, .cons (d := d) _ t, 0, _, _, h => by cases h; exact ⟨d, List.mem_cons_self⟩
  | _, _, .cons _ t, i + 1, _, _, h => by
    obtain ⟨d, hd⟩ := t.at (i := i) (by simpa using h)
    exact ⟨d, List.mem_cons_of_mem _ hd⟩
end
end VL
namespace VL
open PySem L2 PySem.Spec PyProof.Rows PySem.Calls
end VL
set_option maxRecDepth 100000
namespace VL
open PySem L2 PySem.Spec PyProof.Rows PySem.Calls
end VL
set_option maxRecDepth 100000
namespace VL
open PySem L2
end VL
set_option maxRecDepth 100000
namespace VL
open PySem L2
section
variable {C : Cc} {W : WX} {pn : List Nat} {tt : TT} {te : TE} {t1 : TS} {ft : FT} {fs : FS} {fe : FE} {i j h : Nat} {vs : List Nat}
theorem Rws.hm {w0 w : WS} {p : Addr} {xs : List V} {us ts : List Tr} {k : Nat} {as1 as2 : List Addr} {D : Addr} {o : HO} (r : Rws C w0 w p xs us ts k as1 as2) (hd : D ∉ p :: (as1 ++ as2)) : Rws C w0 { w with H := upd w.H D o } p xs us ts k as1 as2 := by
  have ne : ∀ a ∈ p :: (as1 ++ as2), a ≠ D := fun a ha z => hd (z ▸ ha)
  refine ⟨(upd_ne (ne p List.mem_cons_self)).trans r.at_, r.kk, r.len, r.a1.mono (Same.refl _) fun a ha => ⟨upd_ne (ne a (List.mem_cons_of_mem _ (List.mem_append_left _ ha))), rfl⟩, r.a2.mono (Same.refl _) fun a ha => ⟨upd_ne (ne a (List.mem_cons_of_mem _ (List.mem_append_right _ ha))), rfl⟩, ⟨r.hid.nd, r.hid.g, fun a ha => ?_, r.hid.n⟩, r.src⟩
  obtain ⟨o', ho⟩ := r.hid.h a ha
  exact ⟨o', (upd_ne (ne a ha)).trans ho⟩
theorem Hid.hm {w : WS} {as : List Addr} {D : Addr} {o : HO} (r : Hid w as) : Hid { w with H := upd w.H D o } as := ⟨r.nd, r.g, fun a ha => by
  by_cases z : a = D
  · exact ⟨o, by show upd w.H D o a = _; rw [z]; exact upd_same⟩
  · obtain ⟨o', ho⟩ := r.h a ha
    exact ⟨o', (upd_ne z).trans ho⟩, r.n⟩
end
end VL
set_option maxRecDepth 100000
namespace VL
open PySem PySem.Spec PyProof.Rows L2
end VL
set_option maxRecDepth 100000
namespace VL
open PySem L2
end VL
set_option maxRecDepth 100000
namespace VL
open PySem L2
section
variable {X : Cx} {ρ : Nat → Res} {W : WX} {pn : List Nat} {st : Stmt} {rest sa sb : List Stmt} {a b : Expr} {f g : FS} {fa fx fv : FE} {ta : FT} {pos apos : Pos}
def VST (X : Cx) (ρ : Nat → Res) (W : WX) (pn : List Nat) (st : Stmt) (f : FS) : Prop := ∃ t, PST X st t ∧ SS (cc X ρ) W pn t f
def VSsT (X : Cx) (ρ : Nat → Res) (W : WX) (pn : List Nat) (st : List Stmt) (f : FS) : Prop := ∃ t, PSsT X st t ∧ SS (cc X ρ) W pn t f
def VET (X : Cx) (ρ : Nat → Res) (W : WX) (e : Expr) (f : FE) : Prop := ∃ t, PET X e t ∧ SE (cc X ρ) W t f
theorem vst_of (h : VS X ρ W pn st f) : VST X ρ W pn st f := by
  obtain ⟨t, p, s⟩ := h
  exact ⟨t, PST.of p, s⟩
theorem vsst_of (h : VSs X ρ W pn rest f) : VSsT X ρ W pn rest f := by
  obtain ⟨t, p, s⟩ := h
  exact ⟨t, PSsT.of p, s⟩
theorem ss_seq {C : Cc} {t t2 : TS} (s : SS C W pn t f) (s2 : SS C W pn t2 g) : SS C W pn (tSeq t t2) (sSeq f g) := fun π e σ w D hp m h => by
  refine s π e σ w _ hp m ?_
  unfold sSeq at h
  cases q : f e with
  | none => rw [q] at h; exact h.elim
  | some x =>
    rw [q] at h
    cases x with
    | nx e1 => exact fun σ' w' m' f' => s2 π e1 σ' w' D hp m' (h.from f')
    | rt b e1 => exact h
    | bk e1 => exact h
    | ct e1 => exact h
    | ex c e1 => exact h
theorem vsst_one (h : VST X ρ W pn st f) : VSsT X ρ W pn [st] f := by
  obtain ⟨t, p, s⟩ := h
  refine ⟨_, psst_cons p CwR.psst_nil, ?_⟩
  have := ss_seq s (g := sNil) (t2 := tNext) (fun π e σ w D hp m h => h σ w m (.refl w))
  have e : sSeq f sNil = f := by
    funext e
    unfold sSeq
    cases q : f e with
    | none => rfl
    | some x => cases x <;> rfl
  rwa [e] at this
theorem vsst_cons (h : VST X ρ W pn st f) (hr : VSsT X ρ W pn rest g) : VSsT X ρ W pn (st :: rest) (sSeq f g) := by
  obtain ⟨t, p, s⟩ := h
  obtain ⟨t2, p2, s2⟩ := hr
  exact ⟨_, psst_cons p p2, ss_seq s s2⟩
theorem vst_if (hc : VT X ρ W a ta) (ha : VSsT X ρ W pn sa f) (hb : VSsT X ρ W pn sb g) : VST X ρ W pn (.If a sa sb pos) (sIf ta f g) := by
  obtain ⟨t, p, s⟩ := hc
  obtain ⟨t2, p2, s2⟩ := ha
  obtain ⟨t3, p3, s3⟩ := hb
  refine ⟨_, CwR.pst_if p p2 p3, fun π e σ w D hp m h => ?_⟩
  refine s π e σ w _ m (h.bnd fun o1 e1 v1 w1 m1 f1 k1 h1 => ?_)
  subst k1
  cases o1 with
  | true => rw [if_pos rfl]; exact s2 π e1 σ w1 D hp m1 (h1.from f1)
  | false => rw [if_neg Bool.false_ne_true]; exact s3 π e1 σ w1 D hp m1 (h1.from f1)
/-- name = "text" ahead of what wants a token -/
theorem vss_strT (V0 : X.N.Nodup) (i : Nat) {x c : Str} {j : Nat} {pos' cpos : Pos} (hr : VSsT X ρ W pn rest g) (hi : X.N[i]? = some x := by rfl) (hp : i ∉ pn := by decide) (hx : Loc X.env.scope x := by first | exact Or.inl rfl | exact Or.inr rfl)
    (hs : swapsWith (.Constant (.str c) j cpos) (some (.Name x pos')) pos.line X.env = pure false := by rfl)
    (hf : X.fn x = true ∨ X.env.scope.names.lookup x = some .local := by first | exact .inl rfl | exact .inr rfl) : VSs X ρ W pn (.Assign [.Name x pos'] (.Constant (.str c) j cpos) pos :: rest) (sSeq (sAsg i (fC (.str c))) g) := by
  obtain ⟨t2, p2, s2⟩ := hr
  refine ⟨_, pss_str V0 hi hx p2 hs hf, ss_seq (ss_asg hp fun π e σ w Q m h => ?_) s2⟩
  exact h _ w m (.refl w) (.fr (.str c))
def oRepl (y z : Str) : PyData → Option B
  | .str x => if x.length + (x.length + 1) * z.length ≤ 16777216 then some (.fr (.str (Txt.replace x y z))) else none
  | _ => none
theorem vet_repl {y z : Str} {j k : Nat} {c0 c1 : Pos} (ho : VE X ρ W a fa) (hyz : (y == z) = false := by decide)
    (hst : starEach [.Constant (.str y) j c0, .Constant (.str z) k c1] X.env = [(false, eval (.Constant (.str y) j c0) X.env), (false, eval (.Constant (.str z) k c1) X.env)] := by rfl)
    (hbase : attributeBase a "replace" X.env (eval a X.env) = eval a X.env := by rfl) (hline : (apos.endLine == pos.line) = true := by rfl) :
    VET X ρ W (.Call (.Attribute a "replace" apos) [.Constant (.str y) j c0, .Constant (.str z) k c1] [] pos) (fUn (oRepl y z) fa) := by
  obtain ⟨t, p, s⟩ := ho
  refine ⟨_, CwR.pet_replC p hyz hst hbase hline, fun π e σ w Q m h => ?_⟩
  refine s π e σ w _ m (h.bnd fun o1 e1 v1 w1 m1 f1 k1 h1 => ?_)
  cases q : res e1 o1 with
  | none => rw [q] at h1; exact h1.elim
  | some d =>
  rw [q, Option.bind_some] at h1
  have r := res_sound m1 k1 q
  cases d with
  | str x =>
    cases r
    by_cases hb : x.length + (x.length + 1) * z.length ≤ 16777216
    · have e : oRepl y z (.str x) = some (.fr (.str (Txt.replace x y z))) := if_pos hb
      rw [e] at h1
      exact ⟨x, rfl, hb, h1 _ w1 m1 f1 (.fr (.str _))⟩
    · have e : oRepl y z (.str x) = none := if_neg hb
      rw [e] at h1
      exact h1.elim
  | _ => exact h1.elim
theorem pst_asg {tg e : Expr} {te : TE} {gg : TG} (he : PET X e te) (hg : PG X tg gg) (hs : swapsWithSole [tg] e pos.line X.env = pure false) (hw : swappedStores [tg] e X.env = pure none)
    (h1 : (assignEach [tg] X.env).map (·.2) = [assign tg X.env]) : PST X (.Assign [tg] e pos) (tAsg te gg) := by
  intro pins s σ H D h0 I h
  refine wpAny_Assign_stores (thn (he pins s σ H _ h0 I h) fun v s1 ⟨x, H1, I1, r1, q1⟩ => ?_) hs hw
  rw [h1]
  exact thn (hg.run pins s1 σ H1 x v _ I1 r1 q1) fun _ s2 q => q
theorem vst_put {x : Str} {py ps : Pos} (i : Nat) (hx : VE X ρ W b fx) (hv : VET X ρ W a fv) (hN : X.N[i]? = some x := by rfl) (hvs : Vis X.env.scope x := by first | exact Or.inl rfl | exact Or.inr (Or.inl rfl) | exact Or.inr (Or.inr rfl)) (hd : (x == ("__debug__" : Str)) = false := by decide)
    (hcd : (x == ("__classdict__" : Str)) = false := by decide) (hs : swapsWithSole [.Subscript (.Name x py) b ps] a pos.line X.env = pure false := by rfl) (hw : swappedStores [.Subscript (.Name x py) b ps] a X.env = pure none := by rfl)
    (h1 : (assignEach [.Subscript (.Name x py) b ps] X.env).map (·.2) = [assign (.Subscript (.Name x py) b ps) X.env] := by rfl)
    (ha : ∀ v, assign (.Subscript (.Name x py) b ps) X.env v = (do
      let ov ← holding [v] (eval (.Name x py) X.env)
      let iv ← holding [v, ov] (eval b X.env)
      standAt ps
      holding [v, ov, iv] (setItem ov iv v)
      release [v, ov, iv] []) := by intro _; rfl) : VST X ρ W pn (.Assign [.Subscript (.Name x py) b ps] a pos) (sPut i fx fv) := by
  obtain ⟨t, p, s⟩ := hx
  obtain ⟨t2, p2, s2⟩ := hv
  exact ⟨_, pst_asg p2 (pg_sub (pe_var hN hvs hd hcd) p set_list ha) hs hw h1, ss_put s2 s⟩
end
end VL
set_option maxRecDepth 100000
set_option maxHeartbeats 2000000
namespace VL
open PySem L2 PySem.Spec PyProof.Rows
theorem note_frame {e : Value} {a b : PySem.Env} (h : a.frame = b.frame) : noteFrame e a = noteFrame e b := by
  unfold noteFrame PySem.frameOf
  rw [h]
/-- whatever the mark of its flight: noted, it is held here -/
theorem note_any {M : Model} {A : Around} {E : Value → Shared → Prop} {s : Shared} {Z : Obj → Prop} {base : Heap} {env : PySem.Env} {outer : List PySem.Env} {L L' e : Addr} {Q : Unit → Shared → Prop} (hZ : HandSPX.Steady Z)
    (hfr : A.frames = some (env :: outer)) (hf : env.frame = some L) (x : Sky base (env :: outer) e Z L' s.heap) (hQ : ∀ h', HandSPX.HeldZ base (env :: outer) e Z L h' → s.heap.UpToSlots h' → Q () { s with heap := h' }) : wpAny M A (noteFrame (.ref e) env) Q E s := by
  rcases x with ⟨hB, hn, hl, oe, vs, he, hz, hd, h1⟩ | fl | hh
  · exact HandSPX.look_newZ hZ hfr hl hf he hB hn hd h1 hz hQ
  · exact HandSPX.looks_onZ hZ hfr hf fl hQ
  · by_cases q : L' = L
    · subst q
      exact HandSPX.againZ hf hh.2.2.2 (hQ s.heap hh (Heap.UpToSlots.refl _))
    · obtain ⟨hkb, hen, hl, oe, vs, T, oT, ts, he, hz, hd, h1, hnT, hTe, hT, hdT, h3⟩ := hh
      unfold noteFrame
      simp only [hf]
      refine wpAny_bind (wpAny_field he hd h1 ?_)
      rw [if_pos (show (Value.ref T != Value.none) = true from by simp)]
      refine wpAny_bind (wpAny_field hT hdT h3 ?_)
      rw [if_neg (show ¬ ((rawInt L' == rawInt L) = true) from by
        intro z
        have z := eq_of_beq z
        simp [rawInt] at z
        exact q (Int.ofNat.inj z))]
      refine wpAny_bind (wpAny_setField hT hdT (Array.getElem?_eq_some_iff.mp h3).1 ?_)
      have other : ∀ b, b ≠ T → (s.heap.update T (Obj.mapFields (·.setIfInBounds 3 Value.none))).get? b = s.heap.get? b := fun b hb => Heap.get?_update_other _ _ (Ne.symm hb)
      have noRecord : ∀ b o, s.heap.get? b = some o → (∀ vs, o.data ≠ .fields vs) → b ≠ T := fun b o hb hnf q => by
        rw [q, hT] at hb; injection hb with hb; subst hb; exact hnf ts hdT
      refine HandSPX.wpAny_entryZ hZ hfr (hl.of_keeps fun b o hb hnf => ⟨o, (other b (noRecord b o hb hnf)).trans hb, rfl⟩) hf ((other e (Ne.symm hTe)).trans he)
        (fun b o hbo => (other b fun q => by rw [q, hnT] at hbo; cases hbo).trans (hkb b o hbo)) hen hd (Array.getElem?_eq_some_iff.mp h1).1 hz fun h' hN => ?_
      obtain ⟨x1, x2, x3, x4⟩ := hN
      exact hQ h' ⟨x1, hen, x2, x3⟩ fun b o hb hnf => x4 b o ((other b (noRecord b o hb hnf)).trans hb) hnf
def endX (M : Model) (A : Around) (E : Value → Shared → Prop) (use : Option (Value → Sem Unit)) (Q : Value → Shared → Prop) (acc : Value) (C : Addr) (fr : Option Addr) : Result → Shared → Prop
  | .ok f, s' => compPost M A E use Q acc C (.ok f) s'
  | .error x, s' => ∃ m, s'.heap.Ns C m ∧ ∀ h', Heap.SameBut C s'.heap h' → ∀ cenv : PySem.Env, cenv.locals = C → cenv.frame = fr → wpAny M A (passOn "comprehension.variables-let-go" x cenv : Sem Value) (fun _ _ => False) E { s' with heap := h' }
theorem compr_X {M : Model} {A : Around} {E : Value → Shared → Prop} {s : Shared} {env : PySem.Env} {e : Expr} {scope : Scope} {pos : Pos} {newAcc first : Sem Value} {g : Comprehension} {gs : List Comprehension} {cl : List (Str × Addr)} {use : Option (Value → Sem Unit)}
    {Q : Value → Shared → Prop}
    (hcl : clausesOf e = g :: gs) (hs : ∀ x, foldedSetIterable g.iter env x = pure x) (hclos : closureFor scope env = pure cl)
    (hkind : scope.kind = .function) (hnames : ∀ x ∈ scope.names, x.2 = .local → scope.names.lookup x.1 = some .local)
    (h : wpAny M A first (fun x s₁ => wpAny M A (pyIter x) (fun it s₂ => wpAny M A newAcc (fun acc s₃ =>
      wpAny M A (newFunctionEnv scope env.globals cl [] env.qual none .none (some env)) (fun cenv s₄ =>
        codeAny M A (.compStart e 0 it acc { cenv with scope := relabel scope env }) (endX M A E use Q acc cenv.locals cenv.frame) s₄) E s₃) E s₂) E s₁) E s) :
    wpAny M A (comprehension e scope env pos newAcc false first use) Q E s := by
  unfold comprehension
  rw [hclos, hcl]
  refine wpAny_bind (wpAny_mono h (fun x s₁ h₁ => wpAny_bind (wpAny_standAt (wpAny_bind (wpAny_of_eq (hs x) (wpAny_bind (wpAny_holding (wpAny_mono h₁ (fun it s₂ h₂ =>
    wpAny_standIf (wpAny_bind (wpAny_mono h₂ (fun acc s₃ h₃ => wpAny_bind (wpAny_pure (wpAny_bind (wpAny_mono h₃ (fun cenv s₄ h₄ => ?_) fun _ _ h' => h')))) fun _ _ h' => h')))
      fun _ _ h' => h'))))))) fun _ _ h' => h')
  dsimp only
  have hv : ∀ x ∈ (scope.names.filter fun x => (x.2 == .local || x.2 == .cell) && x.1 != (".0" : Str)).reverse, x.2 = .local →
      Env.kindOf { cenv with scope := relabel scope env } x.1 = some .local := fun x hx hl => lookup_relabel_local (hnames x (List.mem_filter.mp (List.mem_reverse.mp hx)).1 hl)
  have hv' : ∀ x ∈ (scope.names.filter fun x => (x.2 == .local || x.2 == .cell) && x.1 != (".0" : Str)).reverse.drop 1 ++ (scope.names.filter fun x => (x.2 == .local || x.2 == .cell) && x.1 != (".0" : Str)).reverse.take 1,
      x.2 = .local → Env.kindOf { cenv with scope := relabel scope env } x.1 = some .local := fun x hx hl => by
    rcases List.mem_append.mp hx with h1 | h1
    · exact hv x (List.mem_of_mem_drop h1) hl
    · exact hv x (List.mem_of_mem_take h1) hl
  refine wpAny_holding (wpAny_bind (wpAny_attempt (wpAny_holding (wpAny_run (codeAny_mono h₄ fun r s' hr => ?_)))))
  cases r with
  | ok f =>
    cases use with
    | none =>
      obtain ⟨m, hn, hr⟩ := hr
      exact wpAny_bind (wpAny_holding (wpAny_comp_letGo (cenv := { cenv with scope := relabel scope env }) hkind _ s' m hv hn fun h' m' _ hs' => wpAny_pure (hr h' hs')))
    | some u =>
      refine wpAny_bind (wpAny_rule (wpAny_bind (wpAny_holding (wpAny_mono hr (fun _ s'' hr' => ?_) fun _ _ h' => h'))))
      obtain ⟨m, hn, hr'⟩ := hr'
      exact wpAny_bind (wpAny_comp_letGo (cenv := { cenv with scope := relabel scope env }) hkind _ s'' m hv' hn fun h' m' _ hs' => wpAny_pure (hr' h' hs'))
  | error x =>
    obtain ⟨m, hn, hr⟩ := hr
    exact wpAny_bind (wpAny_holding (wpAny_comp_letGo (cenv := { cenv with scope := relabel scope env }) hkind _ s' m hv hn fun h' m' _ hs' => wpAny_mono (hr h' hs' _ rfl rfl) (fun _ _ f => f.elim) fun _ _ y => y))
abbrev blkX (X : Cx) (s : Shared) (H : Hp) (scope : Scope) (cenv : PySem.Env) (fp : List Addr) (xe : Value → Shared → Prop) : Cx := (X.blk s H scope cenv fp).tr [] xe
/-- the errors of the block are those of the def -/
def wOf (W : WX) (σ : L2.St) : WX := fun cls d _ H => W cls d σ H
/-- [elt for target in iter]: an error may come of the element -/
def tLcX (wi : TI) (g : TG) (te : WX → TE) (vs : List Nat) (W : WX) : TE := fun σ H Q => wi σ H fun J H1 => ∀ D, H1 D = none → ∃ Wi : Nat → Nat → Hp → Prop, (∃ m, Wi 0 m (upd H1 D (.lst []))) ∧ ∀ i m H, Wi i m H →
  (J.stop i H ∧ Q (.ref D) H) ∨ (J.go i H ∧ ∃ Nx : Hp → Prop, (∀ H', Nx H' → ∃ m', m' < m ∧ Wi (i + 1) m' H') ∧ ∀ x H', J.yld i H x H' → g x (L2.wipe σ vs) H' fun σ2 H2 => L2.wipe σ2 vs = L2.wipe σ vs ∧
    te (wOf W σ) σ2 H2 fun y H4 => ∃ acc, H4 D = some (.lst acc) ∧ acc.length < sizeLine ∧ Nx (upd H4 D (.lst (acc ++ [y]))))
section
variable {X : Cx} {W : WX}
theorem ff_but {base h h' : Heap} : ∀ {l : List PySem.Env}, h.FunFrames base l → (∀ b ∈ frs l, h'.get? b = h.get? b) → h'.FunFrames base l
  | [], _, _ => trivial
  | env :: l, ⟨hk, ⟨L, o, hf, hn, ho, hd⟩, hr⟩, k => ⟨hk, ⟨L, o, hf, hn, (k L (List.mem_filterMap.mpr ⟨env, List.mem_cons_self, hf⟩)).trans ho, hd⟩, ff_but hr fun b hb => k b (by
      obtain ⟨e, he, q⟩ := List.mem_filterMap.mp hb
      exact List.mem_filterMap.mpr ⟨e, List.mem_cons_of_mem _ he, q⟩)⟩
theorem lcX_core {pins : List (Addr × Obj)} {s : Shared} {σ : L2.St} {H : Hp} {Q : VK} {elt tg iter : Expr} {scope : Scope} {own : List (Str × Nat)} {pos pos' : Pos} {wi : TI} {g : TG} {te : WX → TE} {use : Option (Value → Sem Unit)} {Qf : Value → Shared → Prop}
    (est : X.stack = X.env :: X.outer) (efr : X.env.frame = some X.env.locals) (tk : Takes X W) (hc : X.calm = true) (hN : X.N.Nodup) (I : Inv X pins σ H s) (hi : PI X tg iter wi) (ok : BlkOk X.N X.env.scope scope own)
    (hg : ∀ (s : Shared) (H : Hp) (C : Addr) (cl : List (Str × Addr)) (fp : List Addr) (xe : Value → Shared → Prop), PG (blkX X s H scope (compEnvC scope cl C X.env) fp xe) tg g)
    (he : ∀ (W' : WX) (s : Shared) (H : Hp) (C : Addr) (cl : List (Str × Addr)) (fp : List Addr) (xe : Value → Shared → Prop), Takes (blkX X s H scope (compEnvC scope cl C X.env) fp xe) W' → PassesOwn (model X.prog X.w) X.A (compEnvC scope cl C X.env) xe → PE (blkX X s H scope (compEnvC scope cl C X.env) fp xe) elt (te W')) (hs : ∀ x, foldedSetIterable iter X.env x = pure x)
    (h : tLcX wi g te (own.map (·.2)) W σ H Q)
    (hRR : ∀ D C s' m H', Inv X pins σ H' s' → Q (.ref D) H' → s'.heap.Ns C m → FpOk X pins H' C → compPost (model X.prog X.w) X.A X.xe use Qf (.ref D) C (.ok .next) s') :
    wpAny (model X.prog X.w) X.A (comprehension (.ListComp elt [⟨tg, iter, [], 0⟩] scope pos) scope X.env pos' (newList []) false (eval iter X.env) use) Qf X.xe s := by
  have hfree : ∀ y ∈ scope.names, y.2 = .free → ∃ c, X.env.cells.lookup y.1 = some c := fun y hy e => by
    rcases ok.free y hy e with k | k
    · exact I.ok.has _ (.inl k)
    · exact I.ok.has _ (.inr k)
  refine compr_X (use := use) rfl hs (closure_ok hfree) ok.kind (fun y hy e => by rw [ok.uniq y hy, e])
    (thn (hi.run pins s σ H _ I h) fun xv s1 hx => thn hx fun itv s2 h2 => ?_)
  obtain ⟨it, fp, tn, J, H2, e, I2, T, st2, f2, q⟩ := h2
  subst e
  refine wpAny_newObj_type (newEnv_comp ?_) (by show 0 ≤ sizeLine; decide)
  generalize hD : s2.heap.objs.size = D
  have hDn : H2 D = none := I2.hok.fresh (Nat.le_of_eq hD)
  obtain ⟨Wi, ⟨m0, w0⟩, turn⟩ := q D hDn
  generalize hs3 : ({ s2 with heap := s2.heap.push { cls := .type "list", data := .seq ([] : List Value).toArray } } : Shared) = s3
  have I3 : Inv X pins σ (upd H2 D (.lst [])) s3 := by
    rw [← hs3]
    refine I2.laid (t' := s2.toks) (fun b o e => Heap.get?_push_of_some _ e) (Nat.le_of_eq hD) ⟨Nat.zero_le _, [], 0, .nil, ?_⟩
    rw [← hD]
    exact Heap.get?_push_size _ rfl
  have h3 : s3.heap = s2.heap.push { cls := .type "list", data := .seq ([] : List Value).toArray } := by rw [← hs3]
  have sz : ∀ b ∈ fp, b < s2.heap.objs.size := fun b hb => by
    obtain ⟨o, e, _⟩ := T.obj _ _ st2 b hb
    exact Heap.lt_size e
  have f3 : ∀ b ∈ fp, FpOk X pins (upd H2 D (.lst [])) b ∧ b < s3.heap.objs.size := fun b hb => by
    have hlt := sz b hb
    refine ⟨⟨?_, (f2 b hb).2⟩, by rw [h3, Heap.size_push]; exact Nat.lt_succ_of_lt hlt⟩
    rw [upd_ne (by rw [← hD]; exact Nat.ne_of_lt hlt)]
    exact (f2 b hb).1
  have st3 : tn 0 s3.heap := T.keep _ _ _ st2 fun b _ o e => by rw [h3]; exact Heap.get?_push_of_some _ e
  have I4 := block_start I3 ok hN f3
  have pg := hg s3 (upd H2 D (.lst [])) s3.heap.objs.size (cellsFrom (s3.heap.objs.size + 1) scope.names (cloFrom X.env.cells scope.names [])) fp
  have pe := fun W' => he W' s3 (upd H2 D (.lst [])) s3.heap.objs.size (cellsFrom (s3.heap.objs.size + 1) scope.names (cloFrom X.env.cells scope.names [])) fp
  show codeAny _ _ (.compStart (.ListComp elt [⟨tg, iter, [], 0⟩] scope pos) 0 (.ref it) (.ref D) (compEnvC scope (cellsFrom (s3.heap.objs.size + 1) scope.names (cloFrom X.env.cells scope.names [])) s3.heap.objs.size X.env)) (endX (model X.prog X.w) X.A X.xe use Qf (.ref D) s3.heap.objs.size X.env.frame) { s3 with heap := pushCells (s3.heap.push { cls := .type "dict", data := .dict #[] }) scope.names }
  have nfp : ∀ b ∈ fp, (upd H2 D (.lst [])) b = none := fun b hb => (f3 b hb).1.1
  generalize hce : compEnvC scope (cellsFrom (s3.heap.objs.size + 1) scope.names (cloFrom X.env.cells scope.names [])) s3.heap.objs.size X.env = ce at I4 pg pe ⊢
  have cL : ce.locals = s3.heap.objs.size := by subst hce; rfl
  have cF : ce.frame = X.env.frame := by subst hce; rfl
  generalize hH3 : upd H2 D (.lst []) = H3 at I3 I4 pg pe w0 nfp f3
  generalize hs4 : ({ s3 with heap := pushCells (s3.heap.push { cls := .type "dict", data := .dict #[] }) scope.names } : Shared) = s4 at I4 ⊢
  have st4 : tn 0 s4.heap := T.keep _ _ _ st3 fun b _ o e => by rw [← hs4]; exact pushCells_keeps _ _ _ _ (Heap.get?_push_of_some _ e)
  -- what the block's errors come to
  generalize hxe : (notedBy (model X.prog X.w) X.A ce fun e s' => endX (model X.prog X.w) X.A X.xe use Qf (.ref D) s3.heap.objs.size X.env.frame (.error e) s') = xe
  have po : PassesOwn (model X.prog X.w) X.A ce xe := by rw [← hxe]; exact PassesOwn.looking
  have frm : X.A.frames = some (X.env :: X.outer) := I.ok.frames.trans (congrArg some est)
  have back : ∀ {pins' : List (Addr × Obj)} {σ' : L2.St} {H' : Hp} {s' : Shared}, Inv (X.blk s3 H3 scope ce fp) pins' σ' H' s' → Inv X pins σ H' s' := fun {pins' σ' H' s'} I6 =>
    I3.call' (ch := fp) I6.os I6.base I6.hok I6.bare fun b hb => ⟨(f3 b hb).1.2.2.2.1, (f3 b hb).1.2.1, (f3 b hb).1.2.2.2.2.1, (f3 b hb).1.2.2.2.2.2⟩
  have tkx : Takes (blkX X s3 H3 scope ce fp xe) (wOf W σ) := by
    rintro u s' ⟨a, B, sI, pins', σ', H', cls, d, rfl, J', nb, up, sky, na, os, ag, hw⟩
    have J0 : Inv (X.blk s3 H3 scope ce fp) [] σ' H' sI := Inv.ofTry (X := X.blk s3 H3 scope ce fp) (pins := []) J' I4.ok
    have nb : ∀ b o, sI.heap.get? b = some o → b ∉ frs X.stack → B.get? b = some o := nb
    have sky1 : Sky B (X.env :: X.outer) a (Zc cls d) ce.locals s'.heap := by
      have z : Sky B X.stack a (Zc cls d) ce.locals s'.heap := sky
      rwa [est] at z
    have nC : H' ce.locals = none := J0.free
    have nCf : ce.locals ∉ frs X.stack := fun hm => by
      rw [cL] at hm
      have z := I3.stkSub _ hm
      have lt : ∀ b, (b = X.env.locals ∨ b ∈ X.fs) → b < s3.heap.objs.size := fun b hb => by
        rcases hb with rfl | hb
        · exact I3.lt
        · obtain ⟨_, o, ho, _⟩ := I3.stack.mem (b := b) (by rw [est]; exact List.mem_filterMap.mpr (by
            obtain ⟨e, he, q⟩ := List.mem_filterMap.mp hb
            exact ⟨e, List.mem_cons_of_mem _ he, q⟩))
          exact Heap.lt_size ho
      exact absurd (lt _ (List.mem_cons.mp z)) (Nat.lt_irrefl _)
    show xe (.ref a) s'
    rw [← hxe]
    show wpAny _ _ (noteFrame (.ref a) ce) _ _ s'
    rw [note_frame cF]
    refine note_any Zc.steady frm efr sky1 fun h1 hh1 up1 => ?_
    have J1 : Inv (X.blk s3 H3 scope ce fp) [] σ' H' { s' with heap := h1 } := J0.landed nb hh1.1 (up.trans up1) os ag
    obtain ⟨m, hn, _⟩ := J1.loc
    have hn : h1.Ns ce.locals m := hn
    refine ⟨m, by rw [← cL]; exact hn, fun h2 sb cenv hcl hcf => ?_⟩
    rw [← cL] at sb
    obtain ⟨oc, _, _, hoc, hdc, _⟩ := hn
    obtain ⟨k1, k2, k3, oe, vs, Tb, oT, ts, he1, hz1, hd1, h11, hnT, hTe, hT1, hdT, h31⟩ := hh1
    have aC : a ≠ ce.locals := fun z => by rw [z, hoc] at he1; cases he1; rw [hdc] at hd1; cases hd1
    have TC : Tb ≠ ce.locals := fun z => by rw [z, hoc] at hT1; cases hT1; rw [hdc] at hdT; cases hdT
    have he2 : h2.get? a = some oe := (sb.2 a aC).trans he1
    have hT2 : h2.get? Tb = some oT := (sb.2 Tb TC).trans hT1
    have hid : ∀ {h : Heap} {b : Addr} {o : Obj}, (PySem.W.hideAll h [ce.locals]).get? b = some o → h.get? b = some o ∧ b ≠ ce.locals := fun {h b o} q => ⟨PySem.W.of_hideAll _ q, fun z => by rw [z, PySem.W.hideAll_none _ (List.mem_singleton.mpr rfl)] at q; cases q⟩
    have hidn : ∀ {h : Heap} {b : Addr}, h.get? b = none → (PySem.W.hideAll h [ce.locals]).get? b = none := fun {h b} q => by
      cases q2 : (PySem.W.hideAll h [ce.locals]).get? b with
      | none => rfl
      | some o => rw [(hid q2).1] at q; cases q
    have stB : (PySem.W.hideAll B [ce.locals]).StaysIn h2 := fun b o q => (sb.2 b (hid q).2).trans (k1 b o (hid q).1)
    have ffB : h2.FunFrames (PySem.W.hideAll B [ce.locals]) (X.env :: X.outer) := by
      exact funFrames_none (base := B) (ff_but k3 fun b hb => sb.2 b fun z => nCf (by rw [← z, est]; exact hb)) fun L hL => hidn (k3.mem hL).1
    unfold PySem.passOn
    refine wpAny_bind (wpAny_field he2 hd1 h11 ?_)
    rw [if_neg (show ¬ ((Value.ref Tb == Value.none) = true) by simp)]
    have last : wpAny (model X.prog X.w) X.A (setFlight (.ref a) cenv.frame) (fun _ s4 => wpAny (model X.prog X.w) X.A (throw (.ref a) : Sem Value) (fun _ _ => False) X.xe s4) X.xe { s' with heap := h2 } := by
      rw [hcf, efr]
      refine HandSPX.setFlight_anyZ (fl := rawInt X.env.locals) stB ffB ⟨oe, vs, Tb, oT, ts, he2, hz1, hd1, h11, hidn hnT, hTe, hT2, hdT, h31⟩ fun h3 g1 g2 g3 up3 => wpAny_throw (tk _ _ ?_)
      have I5 := back J0
      have fC : FpOk X pins H' ce.locals := by rw [cL]; rw [cL] at nC; exact I3.fpOk (Nat.le_refl _) nC
      obtain ⟨f0, f1, f2', f3', f4, f5⟩ := fC
      have I6 : Inv X pins σ H' { sI with heap := PySem.W.hideAll sI.heap [ce.locals] } := I5.turned (t' := sI.toks) (fun b o hb q => PySem.W.hideAll_get _ q (by simpa using hb)) f0 f1 f3' f4 f5
      refine ⟨a, PySem.W.hideAll B [ce.locals], _, pins, σ, H', cls, d, rfl, I6, fun b o q hb => PySem.W.hideAll_get _ (nb b o (hid q).1 hb) (by simpa using (hid q).2), fun b o q hnf => ?_, .inr (.inr (by rw [est]; exact ⟨g1, hidn k2, g2, g3⟩)), na, os, ag, hw⟩
      obtain ⟨sl1, q1⟩ := (up.trans up1) b o (hid q).1 hnf
      obtain ⟨sl2, q2⟩ := up3 b _ ((sb.2 b (hid q).2).trans q1) hnf
      exact ⟨sl2, q2⟩
    first
      | exact wpAny_bind (wpAny_pure (wpAny_bind last))
      | exact wpAny_bind last
  have pe := pe (wOf W σ) xe tkx po
  have pg := pg xe
  have stat : ∀ {σ' : L2.St} {H' : Hp} {s' : Shared}, Inv (X.blk s3 H3 scope ce fp) [] σ' H' s' → (∀ b ∈ fp, H' b = none) → ∀ b ∈ fp, FpOk (X.blk s3 H3 scope ce fp) [] H' b := fun {σ' H' s'} I' hn b hb =>
    ⟨hn b hb, (I'.ok.exf b hb).1, I'.ok.exfs b hb, .inl hb, fun x c e => (I'.ok.exf b hb).2 x c e, fun p hp => absurd (show p ∈ ([] : List (Addr × Obj)) ++ [] from hp) (by simp)⟩
  have toX : ∀ {p : List (Addr × Obj)} {σ' : L2.St} {H' : Hp} {s' : Shared}, Inv (X.blk s3 H3 scope ce fp) p σ' H' s' → Inv (blkX X s3 H3 scope ce fp xe) p σ' H' s' := fun {p σ' H' s'} I' =>
    ⟨I'.ok.toTry _ _, I'.os, I'.bare, I'.base, I'.loc, I'.cell, I'.free, I'.freeC, I'.pin, I'.hok, I'.len⟩
  have ofX : ∀ {p : List (Addr × Obj)} {σ' : L2.St} {H' : Hp} {s' : Shared}, Inv (blkX X s3 H3 scope ce fp xe) p σ' H' s' → Inv (X.blk s3 H3 scope ce fp) p σ' H' s' := fun {p σ' H' s'} I' =>
    ⟨I4.ok, I'.os, I'.bare, I'.base, I'.loc, I'.cell, I'.free, I'.freeC, I'.pin, I'.hok, I'.len⟩
  have loop : codeAny (model X.prog X.w) X.A (.compLoop (.ListComp elt [⟨tg, iter, [], 0⟩] scope pos) 0 (.ref it) (.ref D) ce) (endX (model X.prog X.w) X.A X.xe use Qf (.ref D) s3.heap.objs.size X.env.frame) s4 := by
    refine compLoop_any (fun n s' => ∃ i H', Inv (X.blk s3 H3 scope ce fp) [] (L2.wipe σ (own.map (·.2))) H' s' ∧ tn i s'.heap ∧ (∀ b ∈ fp, H' b = none) ∧ Wi i n H') ?_ m0 ⟨0, H3, I4, st4, nfp, w0⟩
    rintro n s5 ⟨i, H5, I5, st5, n5, w5⟩
    rw [hxe]
    rcases turn i n H5 w5 with ⟨stop, qq⟩ | ⟨go, Nx, hNx, step⟩
    · have td := T.done (X.blk s3 H3 scope ce fp) rfl rfl rfl hc i [] s5 _ H5 (fun _ _ => False) I5 (stat I5 n5) st5 stop
      refine thnF td fun r s6 ⟨hr, I6⟩ => ?_
      subst hr
      have I7 : Inv X pins σ H5 s6 := back I6
      have nC : H5 s3.heap.objs.size = none := by
        have z : H5 ce.locals = none := I6.free
        rw [cL] at z
        exact z
      obtain ⟨m, hn, _⟩ := I6.loc
      have hn : s6.heap.Ns ce.locals m := hn
      rw [cL] at hn
      exact hRR D s3.heap.objs.size s6 m H5 I7 qq hn (I3.fpOk (Nat.le_refl _) nC)
    · have ti := T.item (X.blk s3 H3 scope ce fp) rfl rfl rfl hc i [] s5 _ H5 (fun _ _ => False) I5 (stat I5 n5) st5 go
      refine thnF ti fun r s6 ⟨u, hr, h6⟩ => ?_
      subst hr
      refine thnF h6 fun _ s7 ⟨x, H7, I7, r7, y7, st7, n7⟩ => ?_
      have I7' := I7.pinned (stat I7 n7) (T.obj _ _ st7)
      refine thn (pg.run _ s7 _ H7 x u _ (toX I7') r7 (step x H7 y7)) fun _ s8 ⟨σ8, H8, I8, hw8, q8⟩ => ?_
      refine wpAny_tests_nil ?_
      simp only [if_true]
      have fin : ∀ {s' : Shared} {H' : Hp}, Inv (X.blk s3 H3 scope ce fp) ([] ++ pinsAt fp s7.heap) σ8 H' s' → Nx H' → ∃ m, m < n ∧ ∃ i H', Inv (X.blk s3 H3 scope ce fp) [] (L2.wipe σ (own.map (·.2))) H' s' ∧ tn i s'.heap ∧ (∀ b ∈ fp, H' b = none) ∧ Wi i m H' := fun {s' H'} I' nx => by
        obtain ⟨m', hm, w'⟩ := hNx H' nx
        have pin' : ∀ b ∈ fp, ∀ o, s7.heap.get? b = some o → s'.heap.get? b = some o ∧ H' b = none := fun b hb o e =>
          let z := I'.pin (b, o) (List.mem_append_right _ (List.mem_append_right _ (mem_pinsAt hb e)))
          ⟨z.1, z.2.1⟩
        have hl : (L2.wipe σ (own.map (·.2))).length = σ8.length := by rw [← hw8, wipe_length]
        refine ⟨m', hm, i + 1, H', (I'.unpinned (pins := [])).weak hl (fun j v e => ?_), T.keep _ _ _ st7 fun b hb o e => (pin' b hb o e).1, fun b hb => ?_, w'⟩
        · rw [← hw8] at e
          exact (wipe_some e).1
        · obtain ⟨o, e, _⟩ := T.obj _ _ st7 b hb
          exact (pin' b hb o e).2
      refine thn (pe.run _ s8 σ8 H8 _ I8 q8) fun z s10 ⟨yv, H10, I10, r10, acc, hD10, hz10, nx⟩ => ?_
      exact app_ok (X := X.blk s3 H3 scope ce fp) (ofX I10) hD10 hz10 r10 fun s11 I11 => fin I11 nx
  exact codeAny_compStart_list loop (T.self X.A 0 _ _ _ st4 loop)
theorem ps_setLcX {i : Nat} {y : Str} {py : Pos} {elt tg iter : Expr} {scope : Scope} {own : List (Str × Nat)} {pos spos : Pos} {wi : TI} {g : TG} {te : WX → TE} (est : X.stack = X.env :: X.outer) (efr : X.env.frame = some X.env.locals) (tk : Takes X W) (hc : X.calm = true) (hN : X.N.Nodup) (hy : X.N[i]? = some y) (hyl : X.env.scope.names.lookup y = some .local)
    (hsw : swapsWith (.ListComp elt [⟨tg, iter, [], 0⟩] scope pos) (some (.Name y py)) spos.line X.env = pure true) (hi : PI X tg iter wi) (ok : BlkOk X.N X.env.scope scope own)
    (hg : ∀ (s : Shared) (H : Hp) (C : Addr) (cl : List (Str × Addr)) (fp : List Addr) (xe : Value → Shared → Prop), PG (blkX X s H scope (compEnvC scope cl C X.env) fp xe) tg g)
    (he : ∀ (W' : WX) (s : Shared) (H : Hp) (C : Addr) (cl : List (Str × Addr)) (fp : List Addr) (xe : Value → Shared → Prop), Takes (blkX X s H scope (compEnvC scope cl C X.env) fp xe) W' → PassesOwn (model X.prog X.w) X.A (compEnvC scope cl C X.env) xe → PE (blkX X s H scope (compEnvC scope cl C X.env) fp xe) elt (te W')) (hs : ∀ x, foldedSetIterable iter X.env x = pure x := by intro _; rfl) :
    PS X (.Assign [.Name y py] (.ListComp elt [⟨tg, iter, [], 0⟩] scope pos) spos) (tAsg (tLcX wi g te (own.map (·.2)) W) (gName i)) := by
  refine ⟨fun pins s σ H D I h => ?_⟩
  rw [exec_Assign_Name_used _ _ _ _ hsw]
  refine wpAny_bind (wpAny_standAt (wpAny_bind ?_))
  show wpAny _ X.A (do let _ ← comprehension (.ListComp elt [⟨tg, iter, [], 0⟩] scope pos) scope X.env (firstIterPos [⟨tg, iter, [], 0⟩] pos) (newList []) false (eval iter X.env) (some (assign (.Name y py) X.env))) _ _ s
  have h : tLcX wi g te (own.map (·.2)) W σ H (fun x H1 => gName i x σ H1 D.nx) := h
  refine wpAny_bind (thn (lcX_core (Qf := fun _ s' => L2.SP X pins D .next s') est efr tk hc hN I hi ok hg he hs h fun L C s' m H' I' q hn f => ?_) fun _ s' hq => wpAny_pure (wpAny_pure hq))
  show wpAny _ _ (assign (.Name y py) X.env (.ref L)) _ _ _
  refine wpAny_assign_Name (store_ok2 (v := V.ref L) I' hN hy (.inl hyl) rfl (fun s2 I2 ⟨a, sb, ha⟩ => ?_) (.inr hyl))
  obtain ⟨f0, f1, f2, f3, f4, f5⟩ := f
  have haC : C ≠ a := by
    rcases ha with z | z
    · rw [z]; exact f1
    · exact fun e => f4 y a z e.symm
  refine ⟨m, hn.sameBut sb haC, fun h3 sb3 => ?_⟩
  exact ⟨_, H', I2.turned (t' := s2.toks) (fun b o hb e => (sb3.2 b hb).trans e) f0 f1 f3 f4 f5, q⟩
end
end VL
set_option maxRecDepth 100000
namespace VL
open PySem L2
def fLcXL (g : FG) (f : FE) (vs : List Nat) : List PyData → List PyData → Env → Option (Out O)
  | [], acc, e => some (.ok (.b (.ow acc)) e)
  | d :: ds, acc, e => match g d e with
    | none => none
    | some e1 => match f e1 with
      | some (.ok o e3) => match fz e3 o with
        | some p => if acc.length < big then fLcXL g f vs ds (acc ++ [p.1]) (forget vs p.2) else none
        | none => none
      | some (.ex c e3) => some (.ex c (forget vs e3))
      | none => none
def fLcX (fi : FI) (g : FG) (f : FE) (vs : List Nat) : FE := fun e => bnd (fi e) fun ds e1 => fLcXL g f vs ds [] (forget vs e1)
section
variable {W : WX} {fi : FI} {ft : FG} {fa : FE}
theorem se_lcX {C : Cc} {wi : TI} {t : TG} {te : WX → TE} {vs : List Nat} (si : SI C W wi fi) (sg : SG C [] t ft) (wg : WipeG t vs) (sf : ∀ W', SE C W' (te W') fa) : SE C W (tLcX wi t te vs W) (fLcX fi ft fa vs) := fun π e σ w Q m h => by
  refine si π e σ w _ m (h.bnd fun ds e1 J w1 m1 f1 k1 h1 => ?_)
  intro D hD
  obtain ⟨wf, mf, ff, eHf, eGf, hlf⟩ := m1.forget (vs := vs)
  have hDf : wf.H D = none := by rw [eHf]; exact hD
  have hDw : w.H D = none := f1.t D hD
  have hG1 : wf.G D = none := mf.sub.free hDf
  have m2 := mf.new (o := .lst []) hDf
  have f2 := Frm.new (o := .lst []) hDf
  have hno : ∀ i, ¬ (wf.new D (.lst [])).fp i D := fun i => mf.notOwned hDf i
  have mw : Mt C [] (forget vs e1) (L2.wipe σ vs) (wf.new D (.lst [])) := m2.wipe fun i b q => (at_forget q).2
  let I : Nat → Hp → Prop := fun i H' => ∃ e' w' acc xs, w'.H = H' ∧ Mt C [] e' (L2.wipe σ vs) w' ∧ (∀ j b, at? e' j = some b → j ∉ vs) ∧ Frm w1 w' ∧ Same w1.G w'.G ∧ w'.H D = some (.lst xs) ∧ w'.G D = none ∧ (∀ j, ¬ w'.fp j D) ∧ RpAll C.K w'.G xs acc ∧
      Post C W π σ w (fLcXL ft fa vs (ds.drop i) acc e') (OOk C σ w) Q
  refine ⟨fun i n H' => n = ds.length - i ∧ i ≤ ds.length ∧ I i H',
    ⟨ds.length, by simp, Nat.zero_le _, forget vs e1, wf.new D (.lst []), [], [], by rw [show (wf.new D (.lst [])).H = upd wf.H D (.lst []) from rfl, eHf], mw, fun j b q => (at_forget q).2, ff.trans f2, (ff.trans f2).g, upd_same, hG1, hno, .nil, by rw [List.drop_zero]; exact h1⟩, ?_⟩
  rintro i n H' ⟨rfl, hi, e', w', acc, xs, rfl, m', hv', fr', sG, hDx, hGD, hnD, rA, h3⟩
  obtain ⟨go, stop, yld⟩ := k1 i [] e' _ w' m' sG
  have frw : Frm w w' := f1.trans fr'
  by_cases hlt : i < ds.length
  · refine .inr ⟨go hlt, fun H2 => i + 1 ≤ ds.length ∧ I (i + 1) H2, fun H2 q => ⟨ds.length - (i + 1), by omega, rfl, q⟩, fun x H2 y => ?_⟩
    obtain ⟨w2, m2, f2, eH2, r2⟩ := yld x H2 y ds[i] (List.getElem?_eq_getElem hlt)
    subst eH2
    rw [List.drop_eq_getElem_cons hlt] at h3
    unfold fLcXL at h3
    cases q : ft ds[i] e' with
    | none => rw [q] at h3; exact h3.elim
    | some e3 =>
      rw [q] at h3
      simp only at h3
      have ww := wipe_wipe (σ := σ) (vs := vs)
      have turn : ∀ σ3 w3, L2.wipe σ3 vs = L2.wipe σ vs → σ3.length = σ.length → Mt C [] e3 σ3 w3 → Frm w2 w3 → te (wOf W σ) σ3 w3.H fun y H4 => ∃ acc, H4 D = some (.lst acc) ∧ acc.length < sizeLine ∧ (i + 1 ≤ ds.length ∧ I (i + 1) (upd H4 D (.lst (acc ++ [y])))) := by
        intro σ3 w3 hw3 hl3 m3 f3
        have fD : ∀ {w4}, Frm w' w4 → w4.H D = some (.lst xs) ∧ w4.G D = none ∧ ∀ j, ¬ w4.fp j D := fun {w4} f => by
          obtain ⟨g1, g2, g3⟩ := f.k D _ hDx hnD
          exact ⟨g1, g2.trans hGD, g3⟩
        have f24 : Frm w' w3 := f2.trans f3
        refine sf (wOf W σ) [] e3 σ3 w3 _ m3 ?_
        cases qf : fa e3 with
        | none => rw [qf] at h3; exact h3.elim
        | some of_ =>
          rw [qf] at h3
          cases of_ with
          | ex c e5 =>
            intro w5 A hA m5 f5
            show W (.ref A) none σ w5.H
            obtain ⟨w7, m7, f7, eH7, eG7, hl7⟩ := m5.forget (vs := vs)
            have m7' : Mt C π (forget vs e5) σ w7 := m7.unwipe (σ := σ) (vs := vs) hw3 hl3 (fun j b q => (at_forget q).2) m.pin
            rw [← eH7]
            exact h3 w7 A hA m7' (frw.trans ((f24.trans f5).trans f7))
          | ok o e5 =>
            intro yv w5 m5 f5 k5
            simp only at h3
            cases qz : fz e5 o with
            | none => rw [qz] at h3; exact h3.elim
            | some pz =>
              rw [qz] at h3
              obtain ⟨dz, ez⟩ := pz
              simp only at h3
              obtain ⟨w6, m6, f6, eH6, r6⟩ := fz_sound m5 f5 k5 qz
              split at h3
              case isFalse => exact h3.elim
              case isTrue hbig =>
                have f26 : Frm w' w6 := f24.trans f6
                obtain ⟨g1, g2, g3⟩ := fD f26
                have hlen := rA.length
                refine ⟨xs, by rw [← eH6]; exact g1, by rw [hlen]; exact Nat.lt_of_lt_of_le hbig big_le, hlt, ?_⟩
                obtain ⟨w7, m7, f7, eH7, eG7, hl7⟩ := m6.forget (vs := vs)
                have f27 := f26.trans f7
                obtain ⟨a1, a2, a3⟩ := fD f27
                have m8 : Mt C [] (forget vs ez) (L2.wipe σ vs) { w7 with H := upd w7.H D (.lst (xs ++ [yv])) } := by
                  have m7' := m7.unwipe (σ := L2.wipe σ vs) (π := []) (vs := vs) (by rw [ww]; exact hw3) (by rw [wipe_length]; exact hl3) (fun j b q => (at_forget q).2) (fun p h => by cases h)
                  refine ⟨m7'.len, fun a u qa => ?_, fun j b qb => ?_, m7'.non, m7'.dis, m7'.pin⟩
                  · show upd w7.H D (.lst (xs ++ [yv])) a = some u
                    rw [upd_ne (ne_of_none qa a2)]
                    exact m7'.sub a u qa
                  · obtain ⟨v, b1, b2⟩ := m7'.bok j b qb
                    refine ⟨v, b1, b2.mono (Same.refl _) fun a ha => ⟨upd_ne fun z => a3 j (by rw [← z]; exact ha), rfl⟩⟩
                refine ⟨_, _, acc ++ [dz], xs ++ [yv], by show upd w7.H D _ = _; rw [eH7, eH6], m8, fun j b q => (at_forget q).2, ⟨(fr'.trans f27).g, fun a o ha hna => ?_, fun a ha => ?_⟩, sG.trans f27.g, upd_same, a2, a3, (rA.mono f27.g).append (.cons (r6.mono f7.g) .nil), h3⟩
                · obtain ⟨b1, b2, b3⟩ := (fr'.trans f27).k a o ha hna
                  refine ⟨?_, b2, b3⟩
                  show upd w7.H D _ a = some o
                  rw [upd_ne (ne_of_none ha hD)]
                  exact b1
                · by_cases z : a = D
                  · rw [z]; exact hD
                  · have ha' : upd w7.H D (.lst (xs ++ [yv])) a = none := ha
                    rw [upd_ne z] at ha'
                    exact (fr'.trans f27).t a ha'
      exact wg x _ _ _ _ ww (sg [] e' _ w2 ds[i] x e3 _ (fun p h => by cases h) m2 r2 q fun σ3 w3 m3 f3 _ hw hl => turn σ3 w3 hw (hl.trans (wipe_length σ vs)) m3 f3)
  · have e2 : i = ds.length := by omega
    subst e2
    rw [List.drop_length] at h3
    refine .inl ⟨stop (Nat.le_refl _), ?_⟩
    have mu : Mt C π e' σ w' := m'.unwipe (σ := σ) (vs := vs) wipe_wipe (wipe_length σ vs) hv' m.pin
    exact h3 (.ref D) w' mu frw ⟨fun a => a = D, ⟨D, xs, rfl, hGD, hDx, rA, fun _ => Iff.rfl⟩, fun a ha => by subst ha; exact ⟨.inl hDw, hnD⟩⟩
end
section
variable {X : Cx} {ρ : Nat → Res} {W : WX} {pn : List Nat} {tg iter elt : Expr} {pos p : Pos} {fa : FE} {fi : FI} {ft : FG}
theorem Vx.blkX (V0 : Vx X W) {W' : WX} (s : Shared) (H : Hp) (scope : Scope) (cenv : PySem.Env) (fp : List Addr) (xe : Value → Shared → Prop) (tk : Takes (VL.blkX X s H scope cenv fp xe) W') (po : PassesOwn (model X.prog X.w) X.A cenv xe) : Vx (VL.blkX X s H scope cenv fp xe) W' := ⟨V0.calm, V0.room, V0.gd, V0.sm, V0.nd, tk, po⟩
theorem lcX_parts {scope : Scope} (V0 : Vx X W)
    (he : ∀ (W' : WX) (s : Shared) (H : Hp) (C : Addr) (cl : List (Str × Addr)) (fp : List Addr) (xe : Value → Shared → Prop), Vx (blkX X s H scope (compEnvC scope cl C X.env) fp xe) W' → VE (blkX X s H scope (compEnvC scope cl C X.env) fp xe) ρ W' elt fa) :
    ∃ te : WX → TE, (∀ (W' : WX) (s : Shared) (H : Hp) (C : Addr) (cl : List (Str × Addr)) (fp : List Addr) (xe : Value → Shared → Prop), Takes (blkX X s H scope (compEnvC scope cl C X.env) fp xe) W' → PassesOwn (model X.prog X.w) X.A (compEnvC scope cl C X.env) xe → PE (blkX X s H scope (compEnvC scope cl C X.env) fp xe) elt (te W')) ∧ ∀ W', SE (cc X ρ) W' (te W') fa := by
  have h2 := fun W' s H C cl fp xe tk po => he W' s H C cl fp xe (V0.blkX s H scope _ fp xe tk po)
  refine ⟨fun W' σ H' Q => ∀ s H C cl fp xe tk po, (h2 W' s H C cl fp xe tk po).choose σ H' Q, fun W' s H C cl fp xe tk po => ?_, fun W' => ?_⟩
  · exact pe_less (h2 W' s H C cl fp xe tk po).choose_spec.1 fun σ H' Q q => q s H C cl fp xe tk po
  · intro π e σ w Q m h s H C cl fp xe tk po
    exact (h2 W' s H C cl fp xe tk po).choose_spec.2 π e σ w Q m h
theorem vs_asgLcX {scope : Scope} {y : Str} {py spos : Pos} {t : TG} (V0 : Vx X W) (i : Nat) (own : List (Str × Nat)) (hi : VI X ρ W tg iter fi) (ok : blkC X.N X.env.scope scope own = true)
    (hg : ∀ (s : Shared) (H : Hp) (C : Addr) (cl : List (Str × Addr)) (fp : List Addr) (xe : Value → Shared → Prop), PG (blkX X s H scope (compEnvC scope cl C X.env) fp xe) tg t) (sg : SG (cc X ρ) [] t ft) (wg : WipeG t (own.map (·.2)))
    (he : ∀ (W' : WX) (s : Shared) (H : Hp) (C : Addr) (cl : List (Str × Addr)) (fp : List Addr) (xe : Value → Shared → Prop), Vx (blkX X s H scope (compEnvC scope cl C X.env) fp xe) W' → VE (blkX X s H scope (compEnvC scope cl C X.env) fp xe) ρ W' elt fa)
    (hsw : swapsWith (.ListComp elt [⟨tg, iter, [], 0⟩] scope pos) (some (.Name y py)) spos.line X.env = pure true) (hy : X.N[i]? = some y := by rfl) (hyl : X.env.scope.names.lookup y = some .local := by rfl) (hp : i ∉ pn := by decide)
    (est : X.stack = X.env :: X.outer := by rfl) (efr : X.env.frame = some X.env.locals := by rfl) (hs : ∀ x, foldedSetIterable iter X.env x = pure x := by intro _; rfl) :
    VS X ρ W pn (.Assign [.Name y py] (.ListComp elt [⟨tg, iter, [], 0⟩] scope pos) spos) (sAsg i (fLcX fi ft fa (own.map (·.2)))) ∧
    VS X ρ W pn (.Assign [.Name y py] (.ListComp elt [⟨tg, iter, [], 0⟩] scope pos) spos) (sOwn i (fLcX fi ft fa (own.map (·.2)))) := by
  obtain ⟨wi, pi, si⟩ := hi
  obtain ⟨te, p2, s2⟩ := lcX_parts V0 he
  have q := ps_setLcX est efr V0.tk V0.calm V0.nd hy hyl hsw pi (blkOk_by ok) hg p2 hs
  exact ⟨⟨_, q, ss_asg hp (se_lcX si sg wg s2)⟩, ⟨_, q, ss_own hp (se_lcX si sg wg s2)⟩⟩
end
end VL
set_option maxRecDepth 100000
namespace TM
open PySem L2 VL PySem.W PySem.SeqAt Datum
end TM
set_option maxRecDepth 100000
namespace TM
open PySem L2 VL PySem.W Datum
end TM
set_option maxRecDepth 100000
namespace TM
open PySem L2 VL PySem.W PySem.SeqAt Datum
end TM
set_option maxRecDepth 100000
namespace TM
open PySem L2 VL PySem.W PySem.SeqAt Datum
end TM
set_option maxRecDepth 100000
namespace TM
open PySem L2 VL PySem.W PySem.SeqAt Datum
end TM
set_option maxRecDepth 100000
namespace TM
open PySem L2 VL PySem.W PySem.SeqAt Datum
end TM
set_option maxRecDepth 100000
namespace TM
open PySem VL PySem.W.Datum
def replT (y z x : Str) : Option Str := if x.length + (x.length + 1) * z.length ≤ 16777216 then some (Txt.replace x y z) else none
theorem x_repl {y z x : Str} (a : Str) (h : replT y z x = some a) : oRepl y z (toD x) = some (.fr (toD a)) := by
  unfold replT at h
  split at h
  · rename_i q
    cases h
    exact if_pos q
  · cases h
end TM
set_option maxRecDepth 100000
namespace TM
open PySem VL PySem.W.Datum
section
variable {τ υ α : Type} {Γ : Ctx} {m : R α} {po : α → PO} {fi : FI} {f : FE} {K : O → KC}
theorem cItem_ex {g : FG} {d : PyData} {e e' : VL.Env} {c : Str} (h : cItem g d tTrue f e = some (.ex c e')) : ∃ e1, g d e = some e1 ∧ f e1 = some (.ex c e') := by
  have h0 : (match g d e with
    | none => none
    | some e1 => bndS (f e1) kF) = some (SO.ex c e') := h
  cases q : g d e with
  | none => rw [q] at h0; cases h0
  | some e1 =>
    rw [q] at h0
    have h1 : bndS (f e1) kF = some (SO.ex c e') := h0
    refine ⟨e1, rfl, ?_⟩
    cases q3 : f e1 with
    | none => rw [q3] at h1; cases h1
    | some r =>
      rw [q3] at h1
      cases r with
      | ex c2 e2 => cases h1; rfl
      | ok o e2 =>
        have h' : ((fz e2 o).bind fun p => some (SO.rt (.fr p.1) p.2)) = some (.ex c e') := h1
        cases q4 : fz e2 o with
        | none => rw [q4] at h'; cases h'
        | some p => rw [q4] at h'; cases h'
theorem lcX_loop {g : FG} {vs : List Nat} {D : τ → PyData} {E : υ → PyData} {Γs : Ctx} {step : τ → R (Option υ)} (hd : deadOk vs Γs = true) (hb : ∀ x, J Γs (cItem g (D x) tTrue f) (step x) (poJ E Γs)) : ∀ (xs : List τ) (acc : List υ) (e : VL.Env), Cov Γs e → match lcM step xs acc with
    | .no => True
    | .ok ys => ∃ e', fLcXL g f vs (xs.map D) (acc.map E) e = some (.ok (.b (.ow (ys.map E))) e') ∧ Cov Γs e'
    | .ex c => ∃ e', fLcXL g f vs (xs.map D) (acc.map E) e = some (.ex c e')
  | [], acc, e, he => ⟨e, rfl, he⟩
  | x :: xs, acc, e, he => by
    unfold lcM
    have h1 := hb x e he
    cases q : step x with
    | no => trivial
    | ex c =>
      rw [q] at h1
      obtain ⟨e', h2⟩ := h1
      obtain ⟨e1, k1, k2⟩ := cItem_ex h2
      refine ⟨forget vs e', ?_⟩
      show fLcXL g f vs (D x :: xs.map D) _ e = _
      rw [fLcXL, k1]
      dsimp only
      rw [k2]
    | ok y =>
      rw [q] at h1
      obtain ⟨w, h2, h3⟩ := h1
      show match (match y with
        | none => lcM step xs acc
        | some y => if acc.length < big then lcM step xs (acc ++ [y]) else .no) with
        | .no => True
        | .ok ys => _
        | .ex c => _
      cases y with
      | none =>
        obtain ⟨e', rfl, h5⟩ := h3
        rcases item_of h2 with ⟨e1, e2, k1, k2, k3⟩ | ⟨e1, e2, o, e3, x', e4, k1, k2, k3, k4, k5⟩ | ⟨c, e1, k⟩
        · cases k2
        · cases k5
        · cases k
      | some y =>
        dsimp only
        by_cases hl : acc.length < big
        · rw [if_pos hl]
          obtain ⟨b, e', rfl, h5, h6⟩ := h3
          rcases item_of h2 with ⟨e1, e2, k1, k2, k3⟩ | ⟨e1, e2, o, e3, x', e4, k1, k2, k3, k4, k5⟩ | ⟨c, e1, k⟩
          · cases k2
          · cases k5
            cases h5
            cases k2
            have ih := lcX_loop hd hb xs (acc ++ [y]) (forget vs e') (h6.forget vs hd)
            have e9 : fLcXL g f vs ((x :: xs).map D) (acc.map E) e = fLcXL g f vs (xs.map D) ((acc ++ [y]).map E) (forget vs e') := by
              show fLcXL g f vs (D x :: xs.map D) _ e = _
              rw [fLcXL, k1]
              dsimp only
              rw [k3]
              dsimp only
              rw [k4]
              dsimp only
              rw [List.length_map, if_pos hl, List.map_append]
              rfl
            rw [e9]
            exact ih
          · cases k
        · rw [if_neg hl]
          trivial
def cLcX (g : FG) (f : FE) (vs : List Nat) (ds : List PyData) (K : O → KC) : KC := fun e => bndS (fLcXL g f vs ds [] (forget vs e)) K
theorem j_lcX {g : FG} {vs : List Nat} (k : J Γ (cX fi fun ds => cLcX g f vs ds K) m po) : J Γ (cX (fLcX fi g f vs) K) m po := k.eq (funext fun e => by
  show bndS (bnd (fi e) fun ds e1 => fLcXL g f vs ds [] (forget vs e1)) K = _
  rw [bndS_bnd]
  rfl)
theorem j_lcXM {l : List Nat} {g : FG} {vs : List Nat} {D : τ → PyData} {xs : List τ} {E : υ → PyData} {Γs : Ctx} {step : τ → R (Option υ)} {mk : List υ → R α} {xr : List υ → PyData} (h0 : restr l Γ = Γs) (hd : deadOk vs Γs = true) (hb : ∀ x, J Γs (cItem g (D x) tTrue f) (step x) (poJ E Γs)) (hx : ∀ ys, PyData.list (ys.map E) = xr ys) (k : ∀ r, J Γs (K (.b (bow (xr r)))) (mk r) po) : J Γ (cLcX g f vs (xs.map D) K) ((lcM step xs []).bind mk) po := fun e he => by
  have h := lcX_loop (f := f) hd hb xs [] (forget vs e) ((he.of h0).forget vs hd)
  cases q : lcM step xs [] with
  | no => trivial
  | ex c =>
    rw [q] at h
    obtain ⟨e', h1⟩ := h
    refine ⟨e', ?_⟩
    unfold cLcX
    have h1' : fLcXL g f vs (xs.map D) [] (forget vs e) = some (.ex c e') := h1
    rw [h1']
    rfl
  | ok r =>
    rw [q] at h
    obtain ⟨e', h1, h2⟩ := h
    have h3 := k r e' h2
    have hC : cLcX g f vs (xs.map D) K e = K (.b (bow (xr r))) e' := by
      unfold cLcX
      have h1' : fLcXL g f vs (xs.map D) [] (forget vs e) = some (.ok (.b (.ow (r.map E))) e') := h1
      rw [h1', ← hx]
      rfl
    show match mk r with
      | .no => True
      | .ok a => ∃ w, cLcX g f vs (xs.map D) K e = some w ∧ (po a).ok w
      | .ex c => ∃ e', cLcX g f vs (xs.map D) K e = some (.ex c e')
    rw [hC]
    exact h3
end
end TM
set_option maxRecDepth 100000
namespace TM
open PySem L2 VL VP PySem.W PySem.SeqAt Datum
variable {Γ : Ctx} {α : Type} {po : α → PO} {f : FE} {m : R α}
theorem j_tt (k : J Γ (cX f kF) m po) : J Γ (cX tTrue fun b => match b with
  | true => cX f kF
  | false => kSkip) m po := k
/-- the pools and the place -/
abbrev Dk := List Pl × Int
def DkOk (d : Dk) : Prop := 0 < d.1.length ∧ 0 ≤ d.2
def m__law_draw (d : Dk) (many : Int) : R (Int × Dk) :=
  if drawOk d.1 d.2 many = true then ob (d.1[drawJ d.1 d.2]?) fun p => .ok ((drawP p many).1, (d.1.set (drawJ d.1 d.2) (drawP p many).2, d.2 + 1)) else .no
theorem sim__law_draw (d : Dk) (many : Int) : FnS h__law_draw [.rs 0 (encD d.1 d.2), .fr (toD many)] (m__law_draw d many) (fun a => .d (toD a.1)) (fun a => [(0, .rs 0 (encD a.2.1 a.2.2))]) := by
  have hF : h__law_draw [.rs 0 (encD d.1 d.2), .fr (toD many)] = if drawOk d.1 d.2 many = true then (d.1[drawJ d.1 d.2]?).bind fun p => some (FR.ret (.fr (.int (drawP p many).1)) [some (.rs 0 (encD (d.1.set (drawJ d.1 d.2) (drawP p many).2) (d.2 + 1)))]) else none := by
    show (match decD (encD d.1 d.2) with
      | some (ps, i) => if drawOk ps i many = true then (ps[drawJ ps i]?).bind fun p => some (FR.ret (.fr (.int (drawP p many).1)) [some (.rs 0 (encD (ps.set (drawJ ps i) (drawP p many).2) (i + 1)))]) else none
      | none => none) = _
    rw [decD_enc]
  by_cases hd : drawOk d.1 d.2 many = true
  · rw [if_pos hd] at hF
    have hm : m__law_draw d many = ob (d.1[drawJ d.1 d.2]?) fun p => .ok ((drawP p many).1, (d.1.set (drawJ d.1 d.2) (drawP p many).2, d.2 + 1)) := if_pos hd
    rw [hm]
    cases q : d.1[drawJ d.1 d.2]? with
    | none => trivial
    | some p =>
      rw [q] at hF
      exact ⟨_, _, hF, rfl, fun q hq => by
        rw [List.mem_singleton] at hq
        subst hq
        rfl⟩
  · have hm : m__law_draw d many = .no := if_neg hd
    rw [hm]
    trivial
theorem draw_spec {d : Dk} {many : Int} (h : DkOk d) (h1 : 0 < many) (h2 : many < 2 ^ 64) : ∃ v d', m__law_draw d many = .ok (v, d') ∧ 0 ≤ v ∧ v < many ∧ DkOk d' := by
  obtain ⟨hp, hi⟩ := h
  have hm := Int.emod_nonneg d.2 (b := (d.1.length : Int)) (by omega)
  have hm2 := Int.emod_lt_of_pos d.2 (b := (d.1.length : Int)) (by omega)
  have hj : drawJ d.1 d.2 < d.1.length := by unfold drawJ; omega
  obtain ⟨v1, v2⟩ := drawP_nonneg (p := d.1[drawJ d.1 d.2]) h1
  refine ⟨_, (d.1.set (drawJ d.1 d.2) (drawP d.1[drawJ d.1 d.2] many).2, d.2 + 1), ?_, v1, v2, by show 0 < (d.1.set _ _).length; rw [List.length_set]; exact hp, by show 0 ≤ d.2 + 1; omega⟩
  unfold m__law_draw
  rw [if_pos (show drawOk d.1 d.2 many = true from drawOk_iff.mpr ⟨hp, hi, h1, h2⟩), List.getElem?_eq_getElem hj]
  rfl
end TM
set_option maxRecDepth 100000
set_option maxHeartbeats 0
namespace TM
open PySem VL VP PySem.W.Datum PySem.SeqAt
open PySem.W (Datum Tup)
open L2 (atI ixN)
def m__law_order (deck : Dk) (n : Int) : R (((List Int) × Dk)) :=
  ob (lrg1 n) fun v1 =>
  R.bind (m__law_draw deck ((4 : Int))) fun v2 =>
  if (decide (v2.1 = (0 : Int))) = true then
  (ob (rg1 n) fun xs3 =>
  R.bind (lcS (fun (s9 : (Dk × (List Int))) (x4 : Int) => R.calm (R.bind (m__law_draw s9.1 ((s9.2.length : Int))) fun v10 =>
  ob (popI s9.2 v10.1) fun v11 =>
  .ok (some v11.1, (v10.2, v11.2)))) xs3 [] (v2.2, v1)) fun ys12 =>
  .ok ((ys12.1, ys12.2.1)))
  else
  (R.bind (if (decide (v2.1 = (1 : Int))) = true then
  (.ok ((v1.reverse)))
  else
  (.ok v1)) fun (s13 : (List Int)) =>
  R.bind (R.bind (m__law_draw v2.2 ((7 : Int))) fun v14 =>
  ob (mulI v14.1 ((b2i ((decide ((1 : Int) < n)))))) fun v15 =>
  ob (rg1 v15) fun xs16 =>
  foldM (fun (s27 : (Dk × (List Int))) (x28 : Int) =>
  R.bind (m__law_draw s27.1 ((n - (1 : Int)))) fun v29 =>
  ob (atI s27.2 ((v29.1 + (1 : Int)))) fun v30 =>
  ob (atI s27.2 v29.1) fun v31 =>
  ob (setI s27.2 v29.1 v30) fun v32 =>
  ob (setI v32 ((v29.1 + (1 : Int))) v31) fun v33 =>
  .ok ((v29.2, v33))) xs16 ((v14.2, s13))) fun (s34 : (Dk × (List Int))) =>
  .ok ((s34.2, s34.1)))
theorem sim__law_order (deck : Dk) (n : Int) : FnS h__law_order [.rs 0 (encD deck.1 deck.2), .fr (toD (n : Int))] (m__law_order deck n) (fun a : ((List Int) × Dk) => .o (toD (a.1 : (List Int)))) (fun a : ((List Int) × Dk) => [(0, (.rs 0 (encD a.2.1 a.2.2)))]) :=
  fn_mk (n := 4) (rv := fun a : ((List Int) × Dk) => .o (toD (a.1 : (List Int)))) (ss := [(.rs 0 (encD deck.1 deck.2)), (.d (toD (n : Int)))]) (Γe := fun a : ((List Int) × Dk) => [some (.rs 0 (encD a.2.1 a.2.2)), none, none, none, none, none]) rfl (.cons rfl (.cons rfl All2.nil)) rfl
  (j_own (j_lr1 (j_var rfl (j_lr1op (rd_d rfl)  fun v1 => (j_ownb (j_setO (j_asg (j_call (j_aM rfl (j_aF (j_c (j_fzb (fzb_of fz_b) (j_anil (j_callF rfl (ba_rs rfl (ba_b ba_nil)) (sim__law_draw deck ((4 : Int))) (fun _ => rfl) (fun _ => rfl) fun v2 => (j_fzb (fzb_of fz_b) (j_setD (j_if (j_test (j_bin (j_var rfl (j_c (j_op (rd_d rfl) rd_b (x_eq (τ := Int)) (j_bool rd_b (j_ite (j_ret (j_lc (j_iRg1 (j_var rfl (j_rg1 (rd_d rfl) fun xs3 => (j_lcG (Γs := fun (s9 : (Dk × (List Int))) => [some (.rs 0 (encD s9.1.1 s9.1.2)), some (.d (toD (n : Int))), some (.o (toD (s9.2 : (List Int)))), some (.d (toD (v2.1 : Int))), none, none]) (l := [1, 1, 1, 1, 0, 0]) (D := toD) (E := toD) (xr := fun a => toD a) (v2.2, v1) rfl (fun _ => rfl) (fun s9 x4 => (j_gN (j_tt (j_mth (j_chk rfl rfl (j_dcons (j_call (j_aM rfl (j_aF (j_cb (j_acons (j_var rfl (j_anil (j_cbop (ra_cons (rd_o rfl) ra_nil) (x_len (τ := Int)) (j_fzb (fzb_of fz_b) (j_anil (j_callF rfl (ba_rs rfl (ba_b ba_nil)) (sim__law_draw s9.1 ((s9.2.length : Int))) (fun _ => rfl) (fun _ => rfl) fun v10 => (j_fz fz_b (j_dnil (j_mthopR (z := fun a => .fr (toD a.1)) (es := fun a => a.2.map toD) (y := fun a => toD a.2) rfl (x_popI (τ := Int)) (fun _ => rfl) fun v11 => (j_kf (l := [1, 1, 1, 1, 0, 0]) fz_b rfl rfl))))))))))))))))))))) (fun _ => rfl) fun ys12 => (j_retb (l := [1, 0, 0, 0, 0, 0]) sl_o rfl rfl))))))) (j_seqNil (j_seq (Γs := fun (s13 : (List Int)) => [some (.rs 0 (encD v2.2.1 v2.2.2)), some (.d (toD (n : Int))), some (.o (toD (s13 : (List Int)))), some (.d (toD (v2.1 : Int))), none, none]) (j_if1 (j_test (j_bin (j_var rfl (j_c (j_op (rd_d rfl) rd_b (x_eq (τ := Int)) (j_bool rd_b (j_ite (j_last (j_own (j_un (j_var rfl (j_unop (rd_o rfl) (x_rev (τ := Int)) (j_ownb (j_setO (j_nil (l := [1, 1, 1, 1, 0, 0]) rfl rfl)))))))) (j_nil (l := [1, 1, 1, 1, 0, 0]) rfl rfl))))))))) fun s13 => (j_seq (Γs := fun (s27 : (Dk × (List Int))) => [some (.rs 0 (encD s27.1.1 s27.1.2)), some (.d (toD (n : Int))), some (.o (toD (s27.2 : (List Int)))), some (.d (toD (v2.1 : Int))), none, none]) (j_sFor (j_iRg1 (j_bin (j_call (j_aM rfl (j_aF (j_c (j_fzb (fzb_of fz_b) (j_anil (j_callF rfl (ba_rs rfl (ba_b ba_nil)) (sim__law_draw v2.2 ((7 : Int))) (fun _ => rfl) (fun _ => rfl) fun v14 => (j_cb (j_acons (j_bin (j_var rfl (j_c (j_op (rd_d rfl) rd_b x_gt (j_anil (j_cbop (ra_cons rd_b ra_nil) x_intB (j_opR rd_b rd_b x_mulR fun v15 => (j_rg1 rd_b fun xs16 => (j_for (l := [1, 1, 1, 1, 0, 0]) (D := toD) (Γs := fun (s27 : (Dk × (List Int))) => [some (.rs 0 (encD s27.1.1 s27.1.2)), some (.d (toD (n : Int))), some (.o (toD (s27.2 : (List Int)))), some (.d (toD (v2.1 : Int))), none, none]) ((v14.2, s13)) rfl (fun _ => rfl) fun s27 x28 => (j_gN (j_asg (j_call (j_aM rfl (j_aF (j_bin (j_var rfl (j_c (j_op (rd_d rfl) rd_b x_sub (j_fzb (fzb_of fz_b) (j_anil (j_callF rfl (ba_rs rfl (ba_b ba_nil)) (sim__law_draw s27.1 ((n - (1 : Int)))) (fun _ => rfl) (fun _ => rfl) fun v29 => (j_fzb (fzb_of fz_b) (j_setD (j_last (j_put2 (j_dcons (j_bin (j_var rfl (j_bin (j_var rfl (j_c (j_op (rd_d rfl) rd_b x_add (j_opR (rd_o rfl) rd_b (x_ix (τ := Int)) fun v30 => (j_fz fz_b (j_dcons (j_bin (j_var rfl (j_var rfl (j_opR (rd_o rfl) (rd_d rfl) (x_ix (τ := Int)) fun v31 => (j_fz fz_b (j_dnil (j_has rfl (j_var rfl (j_putI (y := fun a => toD a) rfl (rd_d rfl) (x_set (τ := Int) _) fun v32 => (j_has rfl (j_bin (j_var rfl (j_c (j_op (rd_d rfl) rd_b x_add (j_putI (y := fun a => toD a) rfl rd_b (x_set (τ := Int) _) fun v33 => (j_nil (l := [1, 1, 1, 1, 0, 0]) rfl rfl))))))))))))))))))))))))))))))))))))))))))))))))))))))))))))))) fun s34 => (j_last (j_ret (j_var rfl (j_rets (l := [1, 0, 0, 0, 0, 0]) rfl (fun _ => sl_id) rfl rfl))))))))))))))))))))))))))))))) (fun a p hp => by
    simp only [List.mem_cons, List.not_mem_nil, or_false] at hp
    subst hp; rfl)
end TM
set_option maxRecDepth 100000
set_option maxHeartbeats 0
namespace TM
open PySem VL VP PySem.W.Datum PySem.SeqAt
open PySem.W (Datum Tup)
open L2 (atI ixN)
end TM
set_option maxRecDepth 100000
set_option maxHeartbeats 0
namespace TM
open PySem VL VP PySem.W.Datum PySem.SeqAt
open PySem.W (Datum Tup)
open L2 (atI ixN)
def y_is_whole (thing : PyData) : R Bool :=
  .ok (((isD .int thing) && (!(isD .bool thing))))
theorem simy_is_whole (thing : PyData) : FnS h_is_whole [.fr thing] (y_is_whole thing) (fun a : Bool => .d (toD (a : Bool))) (fun a : Bool => []) :=
  fn_mk (n := 0) (rv := fun a : Bool => .d (toD (a : Bool))) (ss := [(.d thing)]) (Γe := fun a : Bool => [none]) rfl (.cons rfl All2.nil) rfl
  (j_last (j_ret (j_andVP (j_isi (j_var rfl (j_isi2 (b := (isD .int thing)) (rd_d rfl) rfl (j_ko (l := [1]) rd_b rfl rfl)))) (j_notV (j_isi (j_var rfl (j_isi2 (b := (isD .bool thing)) (rd_d rfl) rfl (j_bool rd_b (j_kob (l := [1]) rfl rfl)))))) (j_retb (l := [0]) sl_d rfl rfl)))) (fun a p hp => nomatch hp)
def y_is_order (thing : PyData) : R Bool :=
  R.bind (if (!(isD .list thing)) = true then
  (.ok true)
  else
  (ob (lenY thing) fun v5 =>
  .ok ((!((decide ((1 : Int) ≤ v5)) && (decide (v5 ≤ (12 : Int)))))))) fun b4 =>
  if b4 = true then
  (.ok false)
  else
  (ob (asLY thing) fun v6 =>
  R.bind (lcM (fun (x7 : PyData) => R.calm (R.bind (y_is_whole x7) fun v8 =>
  if (!v8) = true then
  (.ok (some x7))
  else
  (.ok none))) v6 []) fun ys9 =>
  ob (neY ((PyData.list ((ys9 : List PyData).map idD))) ((PyData.list ((([] : (List PyData)) : List PyData).map idD)))) fun v10 =>
  if v10 = true then
  (.ok false)
  else
  (ob (asLIY v6) fun v11 =>
  ob (lrg1 ((v11.length : Int))) fun v12 =>
  .ok ((decide ((v11.mergeSort leI) = v12)))))
theorem simy_is_order (thing : PyData) : FnS h_is_order [.fr thing] (y_is_order thing) (fun a : Bool => .d (toD (a : Bool))) (fun a : Bool => []) :=
  fn_mk (n := 1) (rv := fun a : Bool => .d (toD (a : Bool))) (ss := [(.d thing)]) (Γe := fun a : Bool => [none, none]) rfl (.cons rfl All2.nil) rfl
  (j_if (j_sub (bv := fun b4 : Bool => b4) (Γ1 := fun b4 : Bool => [some (.d thing), none]) (j_orC (j_not (j_test (j_isi (j_var rfl (j_isi2 (b := (isD .list thing)) (rd_d rfl) rfl (j_bool rd_b (j_ite (j_kb (l := [1, 0]) rfl rfl) (j_not (j_test (j_chain (j_c (j_cb (j_acons (j_var rfl (j_anil (j_cbopR (z := fun a => .fr (toD a)) (ra_cons (rd_d rfl) ra_nil) x_lenY fun v5 => (j_chain3 rd_b rd_b x_le (j_c (j_ko (l := [1, 0]) rd_b rfl rfl)) x_le (j_bool rd_b (j_kb (l := [1, 0]) rfl rfl)))))))))))))))))))) fun b4 => (j_ite (j_ret (j_c (j_retb (l := [0, 0]) sl_d rfl rfl))) (j_seqNil (s_asLY (i := 0) rfl fun v6 => (j_if (j_test (j_bin (j_lc (j_iSeq (j_var rfl (j_it (fz_d rfl) rfl (j_lcM (Γs := [some (.d (PyData.list ((v6 : List PyData).map idD))), none]) (l := [1, 0]) (D := idD) (E := idD) (xr := fun a => PyData.list (a.map idD)) rfl rfl (fun x7 => (j_gN (j_not (j_test (j_callP (j_aP (j_var rfl (j_aPs (j_anil (j_callPop rfl (la_d rfl la_nil) rfl (simy_is_whole x7) (fun _ => rfl) fun v8 => (j_bool rd_b (j_ite (j_var rfl (j_kf (l := [1, 0]) (fz_d rfl) rfl rfl)) (j_skip (l := [1, 0]) rfl rfl))))))))))))) (fun _ => rfl) fun ys9 => (j_lst (j_dnil (j_lst2 (PyData.list ((([] : (List PyData)) : List PyData).map idD)) rfl rfl (j_opR rd_w rd_w x_neY fun v10 => (j_bool rd_b (j_ite (j_ret (j_c (j_retb (l := [0, 0]) sl_d rfl rfl))) (j_seqNil (s_asLIY (i := 0) rfl fun v11 => (j_last (j_ret (j_bin (j_cb (j_acons (j_var rfl (j_anil (j_cbop (ra_cons (rd_d rfl) ra_nil) x_sorted (j_lr1 (j_cb (j_acons (j_var rfl (j_anil (j_cbop (ra_cons (rd_d rfl) ra_nil) (x_len (τ := Int)) (j_lr1op rd_b  fun v12 => (j_op rd_w rd_w (x_eq (τ := (List Int))) (j_retb (l := [0, 0]) sl_d rfl rfl)))))))))))))))))))))))))))))))))))))) (fun a p hp => nomatch hp)
end TM
set_option maxRecDepth 100000
set_option maxHeartbeats 0
namespace TM
open PySem VL VP PySem.W.Datum PySem.SeqAt
open PySem.W (Datum Tup T3)
open L2 (atI ixN)
end TM
set_option maxRecDepth 100000
namespace TM
open PySem VL VP PySem.SeqAt
open L2 (atI ixN)
/-- m tells some a with P a -/
def Sat {α : Type} (m : R α) (P : α → Prop) : Prop := ∃ a, m = .ok a ∧ P a
section
variable {α β σ τ υ γ : Type} {m : R α} {P Q : α → Prop}
theorem Sat.of {a : α} (h : m = .ok a) (p : P a) : Sat m P := ⟨a, h, p⟩
theorem sat_ok {a : α} (p : P a) : Sat (.ok a) P := ⟨a, rfl, p⟩
theorem Sat.mono (h : Sat m Q) (k : ∀ a, Q a → P a) : Sat m P := by
  obtain ⟨a, h1, h2⟩ := h
  exact ⟨a, h1, k a h2⟩
theorem sat_bind {k : α → R β} {P : β → Prop} (h : Sat m Q) (hk : ∀ a, Q a → Sat (k a) P) : Sat (m.bind k) P := by
  obtain ⟨a, rfl, h2⟩ := h
  exact hk a h2
theorem sat_ob {o : Option α} {a : α} {k : α → R β} {P : β → Prop} (h : o = some a) (hk : Sat (k a) P) : Sat (ob o k) P := by
  subst h
  exact hk
theorem sat_calm (h : Sat m P) : Sat m.calm P := by
  obtain ⟨a, rfl, h2⟩ := h
  exact ⟨a, rfl, h2⟩
theorem sat_iff {a : α} : Sat m (fun x => x = a) ↔ m = .ok a := ⟨fun ⟨b, h, e⟩ => e ▸ h, fun h => ⟨a, h, rfl⟩⟩
theorem Sat.eq {a : α} (h : Sat m fun x => x = a) : m = .ok a := sat_iff.mp h
theorem sat_ite {b : Bool} {m1 m2 : R α} (h1 : b = true → Sat m1 P) (h2 : b = false → Sat m2 P) : Sat (if b = true then m1 else m2) P := by
  cases b with
  | true => exact h1 rfl
  | false => exact h2 rfl
theorem sat_foldM {mb : σ → τ → R σ} (I : Nat → σ → Prop) : ∀ (xs : List τ) (k : Nat) (s : σ), I k s → (∀ i s (h : i < xs.length), I (k + i) s → Sat (mb s xs[i]) (I (k + i + 1))) → Sat (foldM mb xs s) (I (k + xs.length))
  | [], k, s, h, _ => sat_ok h
  | x :: xs, k, s, h, hb => by
    unfold foldM
    refine sat_bind (hb 0 s (by simp) h) fun s' h' => ?_
    have := sat_foldM I xs (k + 1) s' h' fun i s hi hs => by
      have := hb (i + 1) s (by simpa using hi) (by rw [show k + (i + 1) = k + 1 + i by omega]; exact hs)
      rw [show k + (i + 1) + 1 = k + 1 + i + 1 by omega] at this
      exact this
    rw [show k + (x :: xs).length = k + 1 + xs.length by rw [List.length_cons]; omega]
    exact this
theorem sat_fold {mb : σ → τ → R σ} {xs : List τ} {s : σ} (I : σ → Prop) (h : I s) (hb : ∀ s x, x ∈ xs → I s → Sat (mb s x) I) : Sat (foldM mb xs s) I :=
  sat_foldM (fun _ => I) xs 0 s h fun i s hi hs => hb s _ (List.getElem_mem hi) hs
/-- a loop that is never left before its end -/
theorem sat_loopI {mb : σ → τ → R (Fl σ γ)} (I : Nat → σ → Prop) : ∀ (xs : List τ) (k : Nat) (s : σ), I k s → (∀ i s (h : i < xs.length), I (k + i) s → Sat (mb s xs[i]) fun r => ∃ s', r = .nx s' ∧ I (k + i + 1) s') → Sat (loopM mb xs s) fun r => ∃ s', r = .nx s' ∧ I (k + xs.length) s'
  | [], k, s, h, _ => sat_ok ⟨s, rfl, h⟩
  | x :: xs, k, s, h, hb => by
    unfold loopM
    refine sat_bind (hb 0 s (by simp) h) fun r ⟨s', hr, h'⟩ => ?_
    subst hr
    have := sat_loopI I xs (k + 1) s' h' fun i s hi hs => by
      have := hb (i + 1) s (by simpa using hi) (by rw [show k + (i + 1) = k + 1 + i by omega]; exact hs)
      rw [show k + (i + 1) + 1 = k + 1 + i + 1 by omega] at this
      exact this
    rw [show k + (x :: xs).length = k + 1 + xs.length by rw [List.length_cons]; omega]
    exact this
theorem sat_loop {mb : σ → τ → R (Fl σ γ)} {xs : List τ} {s : σ} (I : σ → Prop) (h : I s) (hb : ∀ s x, x ∈ xs → I s → Sat (mb s x) fun r => ∃ s', r = .nx s' ∧ I s') : Sat (loopM mb xs s) fun r => ∃ s', r = .nx s' ∧ I s' :=
  sat_loopI (fun _ => I) xs 0 s h fun i s hi hs => hb s _ (List.getElem_mem hi) hs
/-- the loop's rest, where it is never left -/
theorem sat_out {mb : R (Fl σ γ)} {mk : σ → R γ} {I : σ → Prop} {P : γ → Prop} (h : Sat mb fun r => ∃ s', r = .nx s' ∧ I s') (hk : ∀ s, I s → Sat (mk s) P) : Sat (mb.bind (Fl.out mk)) P := by
  obtain ⟨r, rfl, s', rfl, h2⟩ := h
  exact hk s' h2
theorem sat_outF {mb : R (Fl σ γ)} {mk : σ → R (Fl β γ)} {I : σ → Prop} {P : Fl β γ → Prop} (h : Sat mb fun r => ∃ s', r = .nx s' ∧ I s') (hk : ∀ s, I s → Sat (mk s) P) : Sat (mb.bind (Fl.outF mk)) P := by
  obtain ⟨r, rfl, s', rfl, h2⟩ := h
  exact hk s' h2
theorem sat_lcS {step : σ → τ → R (Option υ × σ)} (I : Nat → List υ → σ → Prop) : ∀ (xs : List τ) (k : Nat) (acc : List υ) (s : σ), acc.length ≤ k → k + xs.length ≤ big → I k acc s → (∀ i acc s (h : i < xs.length), I (k + i) acc s → Sat (step s xs[i]) fun r => match r with
    | (none, s') => I (k + i + 1) acc s'
    | (some y, s') => I (k + i + 1) (acc ++ [y]) s') → Sat (lcS step xs acc s) fun r => I (k + xs.length) r.1 r.2
  | [], k, acc, s, _, _, h, _ => sat_ok h
  | x :: xs, k, acc, s, hl, hx, h, hb => by
    rw [List.length_cons] at hx
    have key : ∀ acc' s', acc'.length ≤ k + 1 → I (k + 1) acc' s' → Sat (lcS step xs acc' s') fun r => I (k + (x :: xs).length) r.1 r.2 := fun acc' s' hl' h' => by
      have := sat_lcS I xs (k + 1) acc' s' hl' (by omega) h' fun i acc s hi hs => by
        have := hb (i + 1) acc s (by simpa using hi) (by rw [show k + (i + 1) = k + 1 + i by omega]; exact hs)
        rw [show k + (i + 1) + 1 = k + 1 + i + 1 by omega] at this
        exact this
      rw [show k + (x :: xs).length = k + 1 + xs.length by rw [List.length_cons]; omega]
      exact this
    unfold lcS
    refine sat_bind (hb 0 acc s (by simp) h) fun r hr => ?_
    obtain ⟨y, s'⟩ := r
    cases y with
    | none => exact key acc s' (by omega) hr
    | some y =>
      show Sat (if acc.length < big then lcS step xs (acc ++ [y]) s' else .no) _
      rw [if_pos (by omega)]
      exact key _ s' (by rw [List.length_append, List.length_singleton]; omega) hr
theorem lcM_eq {step : τ → R (Option υ)} (p : τ → Bool) (f : τ → υ) {xs : List τ} (hl : xs.length ≤ big) (h : ∀ x ∈ xs, step x = .ok (if p x = true then some (f x) else none)) : lcM (fun x => (step x).calm) xs [] = .ok ((xs.filter p).map f) := by
  have key : ∀ (xs : List τ) (acc : List υ), acc.length + xs.length ≤ big → (∀ x ∈ xs, step x = .ok (if p x = true then some (f x) else none)) → lcM (fun x => (step x).calm) xs acc = .ok (acc ++ (xs.filter p).map f) := by
    intro xs
    induction xs with
    | nil => intro acc _ _; simp [lcM]
    | cons x xs ih =>
      intro acc hl h
      rw [List.length_cons] at hl
      unfold lcM
      rw [h x List.mem_cons_self]
      by_cases hp : p x = true
      · rw [if_pos hp, List.filter_cons_of_pos hp]
        show (if acc.length < big then lcM _ xs (acc ++ [f x]) else .no) = _
        rw [if_pos (by omega), ih (acc ++ [f x]) (by rw [List.length_append, List.length_singleton]; omega) fun y hy => h y (List.mem_cons_of_mem _ hy), List.map_cons, List.append_assoc]
        rfl
      · rw [if_neg hp, List.filter_cons_of_neg hp]
        exact ih acc (by omega) fun y hy => h y (List.mem_cons_of_mem _ hy)
  have := key xs [] (by simpa using hl) h
  simpa using this
/-- each item told, none left out -/
theorem lcM_map {step : τ → R (Option υ)} (f : τ → υ) {xs : List τ} (hl : xs.length ≤ big) (h : ∀ x ∈ xs, step x = .ok (some (f x))) : lcM (fun x => (step x).calm) xs [] = .ok (xs.map f) := by
  have := lcM_eq (fun _ => true) f hl h
  rwa [List.filter_eq_self.mpr fun _ _ => rfl] at this
end
theorem rngL_iota (n : Nat) : rngL 0 n = iota n := by
  unfold rngL iota
  exact List.map_congr_left fun i _ => by rw [Int.zero_add]
theorem rg1_nat {n : Nat} (h : n ≤ 1000000000) : rg1 (n : Int) = some (iota n) := by
  unfold rg1 lim
  rw [if_pos (decide_eq_true (by omega)), Int.toNat_natCast, rngL_iota]
theorem rg1_of {i : Int} (h : i.natAbs ≤ 1000000000) : rg1 i = some (iota i.toNat) := by
  unfold rg1 lim
  rw [if_pos (decide_eq_true (by omega)), rngL_iota]
theorem lrg1_of {i : Int} (h : i.natAbs ≤ 1000000) : lrg1 i = some (iota i.toNat) := by
  unfold lrg1 rgOk big
  rw [if_pos (by rw [Bool.and_eq_true, Bool.and_eq_true, decide_eq_true_eq, decide_eq_true_eq, decide_eq_true_eq]; omega), rngL_iota]
theorem lrg1_nat {n : Nat} (h : n ≤ 1000000) : lrg1 (n : Int) = some (iota n) := by
  have := lrg1_of (i := (n : Int)) (by omega)
  rwa [Int.toNat_natCast] at this
theorem iota_len (n : Nat) : (iota n).length = n := by unfold iota; rw [List.length_map, List.length_range]
theorem mem_iota {n : Nat} {x : Int} : x ∈ iota n ↔ 0 ≤ x ∧ x < n := by
  unfold iota
  rw [List.mem_map]
  constructor
  · rintro ⟨i, hi, rfl⟩
    have := List.mem_range.mp hi
    omega
  · intro h
    exact ⟨x.toNat, List.mem_range.mpr (by omega), by omega⟩
section
variable {τ : Type} {xs : List τ} {i : Int}
theorem ixN_of {n : Nat} {i : Int} (h0 : 0 ≤ i) (h1 : i < n) : ixN n i = some i.toNat := by
  unfold ixN
  rw [if_pos h0, if_pos h1]
theorem ixN_neg {n : Nat} {i : Int} (h0 : i < 0) (h1 : -(n : Int) ≤ i) : ixN n i = some (i + n).toNat := by
  unfold ixN
  rw [if_neg (by omega), if_pos h1]
theorem at_of (h0 : 0 ≤ i) (h1 : i < xs.length) : atI xs i = some (xs[i.toNat]'(by omega)) := by
  unfold atI
  rw [ixN_of h0 h1, Option.bind_some, List.getElem?_eq_getElem]
theorem setI_of {v : τ} (h0 : 0 ≤ i) (h1 : i < xs.length) : setI xs i v = some (xs.set i.toNat v) := by
  unfold setI
  rw [ixN_of h0 h1]
  rfl
theorem addL_of {ys : List τ} (h : xs.length + ys.length ≤ big) : addL xs ys = some (xs ++ ys) := if_pos h
theorem popI_of (h0 : 0 ≤ i) (h1 : i < xs.length) (hb : xs.length ≤ big) : popI xs i = some (xs[i.toNat]'(by omega), xs.eraseIdx i.toNat) := by
  unfold popI
  have hs : seqIndex? i xs.length = some i.toNat := (L2.ixN_seq (ixN_of h0 h1)).1
  have hb' : xs.length ≤ 1000000 := hb
  rw [if_pos (by unfold lim63; exact decide_eq_true (by omega)), hs, Option.bind_some, List.getElem?_eq_getElem (by omega)]
  rfl
theorem insL_of {v : τ} (h0 : 0 ≤ i) (h1 : i.natAbs ≤ 1000000) (hb : xs.length < big) : insL xs i v = some (xs.take i.toNat ++ [v] ++ xs.drop i.toNat) := by
  unfold insL
  rw [if_pos ⟨h0, by omega, hb⟩]
end
theorem modI_of {a b : Int} (h : 0 < b) : modI a b = some (a % b) := if_pos (decide_eq_true h)
theorem fdivI_big {a b : Int} (h : 0 < b) (h2 : b < 2 ^ 200) : fdivI a b = some (a / b) := by
  unfold fdivI cFdiv
  rw [if_pos (by rw [Bool.and_eq_true, decide_eq_true_eq, decide_eq_true_eq]; omega)]
theorem fdivI_of {a b : Int} (h : 0 < b) (h2 : b < 2 ^ 64) : fdivI a b = some (a / b) := fdivI_big h (by omega)
theorem mulI_l {a b : Int} (h : a.natAbs < 2 ^ 64) : mulI a b = some (a * b) := by
  unfold mulI cMul
  rw [if_pos (by rw [decide_eq_true h]; rfl)]
/-- the law's answer, by its mirror -/
theorem law_of {F : Fn} {ns : List Int} {m : R Bool} {ch : Bool → List (Nat × Sl)} (h : FnS F [.sc ns] m (fun a => .d (W.Datum.toD a)) ch) (hm : Sat m fun b => b = true) : ∃ e, F [.sc ns] = some (.ret (.fr (.bool true)) e) := by
  have := hm.eq
  subst this
  obtain ⟨b, e, h1, h2, _⟩ := h
  have := solid_fr (b := b) h2 rfl
  subst this
  exact ⟨e, h1⟩
end TM
set_option maxRecDepth 100000
namespace D
open VP (iota IsOrd)
def sm : Nat → (Nat → Nat) → Nat
  | 0, _ => 0
  | n + 1, f => sm n f + f n
def bn (b : Bool) : Nat := if b = true then 1 else 0
/-- a one-to-one change of names below n, with the way back -/
structure Bij (n : Nat) (π ρ : Nat → Nat) : Prop where
  lt : ∀ i, i < n → π i < n
  lt' : ∀ i, i < n → ρ i < n
  l : ∀ i, i < n → ρ (π i) = i
  r : ∀ i, i < n → π (ρ i) = i
theorem Bij.symm {n : Nat} {π ρ : Nat → Nat} (h : Bij n π ρ) : Bij n ρ π := ⟨h.lt', h.lt, h.r, h.l⟩
def mx : Nat → (Nat → Nat) → Nat
  | 0, _ => 0
  | n + 1, f => max (mx n f) (f n)
/-- ordered pairs that h has one way and g the other -/
def inv (n : Nat) (h g : Nat → Nat) : Nat := sm n fun a => sm n fun b => bn (decide (h a < h b) && decide (g b < g a))
/-- the thing at a place -/
def th (xs : List Int) (p : Nat) : Nat := (xs.getD p 0).toNat
/-- the place of a thing -/
def pl (xs : List Int) (t : Nat) : Nat := xs.idxOf (t : Int)
section
variable {n : Nat} {xs ys zs : List Int}
/-- the difference of two numbers -/
def df (a b : Nat) : Nat := (a - b) + (b - a)
def swapD (n : Nat) (xs ys : List Int) : Nat := inv n (pl xs) (pl ys)
def spotD (n : Nat) (xs ys : List Int) : Nat := sm n fun p => bn (th xs p != th ys p)
def shiftD (n : Nat) (xs ys : List Int) : Nat := mx n fun t => df (pl xs t) (pl ys t)
end
end D
set_option maxRecDepth 100000
namespace D
open VP (iota IsOrd)
end D
set_option maxRecDepth 100000
namespace D
open VP (iota IsOrd)
variable {n : Nat} {xs ys zs : List Int}
/-- the list of n numbers told by f -/
def lst (n : Nat) (f : Nat → Nat) : List Int := (List.range n).map fun i => ((f i : Nat) : Int)
theorem iota_ord : IsOrd n (iota n) := List.Perm.refl _
/-- the back of an order -/
def bk (n : Nat) (xs : List Int) : List Int := lst n (pl xs)
theorem rev_ord (h : IsOrd n xs) : IsOrd n xs.reverse := (List.reverse_perm xs).trans h
inductive Way where
  | swap | spot | shift
def far (w : Way) (n : Nat) (xs ys : List Int) : Nat := match w with
  | .swap => swapD n xs ys
  | .spot => spotD n xs ys
  | .shift => shiftD n xs ys
variable {w : Way}
def most (w : Way) (n : Nat) : Nat := match w with
  | .swap => n * (n - 1) / 2
  | .spot => n
  | .shift => n - 1
end D
set_option maxRecDepth 100000
namespace TM
open PySem VL VP D PySem.SeqAt
open L2 (atI ixN)
variable {n : Nat} {xs ys zs : List Int}
theorem sort_iota (h : IsOrd n xs) : xs.mergeSort leI = iota n := sort_ord h
instance : DecidableEq Way := fun a b => by cases a <;> cases b <;> first | exact isTrue rfl | exact isFalse (fun h => by cases h)
theorem mem_iotaN {n : Nat} {x : Int} (h : x ∈ iota n) : ∃ p : Nat, p < n ∧ x = (p : Int) := by
  obtain ⟨h1, h2⟩ := mem_iota.mp h
  exact ⟨x.toNat, by omega, by omega⟩
theorem popI_perm {xs : List Int} {i : Int} (h0 : 0 ≤ i) (h1 : i < xs.length) (hb : xs.length ≤ big) : ∃ x ys, popI xs i = some (x, ys) ∧ (x :: ys).Perm xs ∧ ys.length + 1 = xs.length := by
  refine ⟨_, _, popI_of h0 h1 hb, ?_, ?_⟩
  · exact erase_perm (by omega)
  · rw [List.length_eraseIdx, if_pos (by omega)]; omega
theorem swap_ok {xs : List Int} {p q : Int} (h0 : 0 ≤ p) (h1 : p < xs.length) (h2 : 0 ≤ q) (h3 : q < xs.length) : ∃ a b ys zs, atI xs q = some a ∧ atI xs p = some b ∧ setI xs p a = some ys ∧ setI ys q b = some zs ∧ zs.Perm xs := by
  refine ⟨_, _, _, _, at_of h2 h3, at_of h0 h1, setI_of h0 h1, setI_of h2 (by rw [List.length_set]; exact h3), ?_⟩
  exact swap_perm (by omega) (by omega)
/-- all taken out, one after the other -/
theorem pops_ok {deck : Dk} {left : List Int} {xs3 : List Int} (hd : DkOk deck) (hl : xs3.length = left.length) (h2 : left.length ≤ 1000) :
    Sat (lcS (fun (s9 : (Dk × (List Int))) (x4 : Int) => R.calm (R.bind (m__law_draw s9.1 ((s9.2.length : Int))) fun v10 =>
    ob (popI s9.2 v10.1) fun v11 =>
    .ok (some v11.1, (v10.2, v11.2)))) xs3 [] (deck, left)) fun r => r.1.Perm left ∧ DkOk r.2.1 := by
  have := sat_lcS (step := fun (s9 : (Dk × (List Int))) (x4 : Int) => R.calm (R.bind (m__law_draw s9.1 ((s9.2.length : Int))) fun v10 =>
    ob (popI s9.2 v10.1) fun v11 =>
    R.ok (some v11.1, (v10.2, v11.2)))) (fun k acc s => DkOk s.1 ∧ (acc ++ s.2).Perm left ∧ s.2.length + k = left.length) xs3 0 [] (deck, left) (by simp) (by unfold big; omega) ⟨hd, List.Perm.refl _, by show left.length + 0 = left.length; omega⟩ fun i acc s hi hs => by
      obtain ⟨s1, s2⟩ := s
      obtain ⟨q1, q2, q3⟩ := hs
      dsimp only at q1 q2 q3 ⊢
      obtain ⟨v, d', e1, v0, v1, ok'⟩ := draw_spec (many := (s2.length : Int)) q1 (by omega) (by omega)
      obtain ⟨x, ys, e2, p1, p2⟩ := popI_perm (xs := s2) v0 (by omega) (by unfold big; omega)
      refine sat_calm ?_
      rw [e1, bind_ok, e2, ob_some]
      refine sat_ok ⟨ok', ?_, by dsimp only; omega⟩
      refine List.Perm.trans ?_ q2
      rw [List.append_assoc]
      exact List.Perm.append_left acc p1
  refine this.mono fun r ⟨h1, h3, h4⟩ => ⟨?_, h1⟩
  have h5 : r.2.2 = [] := List.eq_nil_of_length_eq_zero (by omega)
  rw [h5, List.append_nil] at h3
  exact h3
theorem order_ok {deck : Dk} (hd : DkOk deck) (h1 : 1 ≤ n) (h2 : n ≤ 12) : Sat (m__law_order deck (n : Int)) fun r => IsOrd n r.1 ∧ DkOk r.2 := by
  unfold m__law_order
  obtain ⟨v, d1, e1, v0, v1, ok1⟩ := draw_spec (many := 4) hd (by decide) (by decide)
  rw [lrg1_nat (by omega), ob_some, e1, bind_ok]
  refine sat_ite (fun _ => ?_) fun _ => ?_
  · rw [rg1_nat (by omega), ob_some]
    exact sat_bind (pops_ok ok1 rfl (by rw [iota_len]; omega)) fun r hr => sat_ok hr
  · refine sat_bind (Q := fun s => IsOrd n s) ?_ fun s hs => ?_
    · refine sat_ite (fun _ => sat_ok (rev_ord iota_ord)) fun _ => sat_ok iota_ord
    obtain ⟨u, d2, e2, u0, u1, ok2⟩ := draw_spec (many := 7) ok1 (by decide) (by decide)
    refine sat_bind (Q := fun (s : Dk × List Int) => IsOrd n s.2 ∧ DkOk s.1) ?_ fun s h => sat_ok h
    rw [e2, bind_ok, mulI_l (by omega), ob_some]
    have hb : 0 ≤ b2i (decide ((1 : Int) < n)) ∧ b2i (decide ((1 : Int) < n)) ≤ 1 := by unfold b2i; split <;> omega
    have hm : (u * b2i (decide ((1 : Int) < n))).natAbs ≤ 1000000000 := by
      have h3 : b2i (decide ((1 : Int) < n)) = 0 ∨ b2i (decide ((1 : Int) < n)) = 1 := by omega
      rcases h3 with h3 | h3 <;> rw [h3] <;> omega
    rw [rg1_of hm, ob_some]
    by_cases hn : n = 1
    · subst hn
      have : u * b2i (decide ((1 : Int) < ((1 : Nat) : Int))) = 0 := by rw [show b2i (decide ((1 : Int) < ((1 : Nat) : Int))) = 0 by decide]; omega
      rw [this]
      exact sat_ok ⟨hs, ok2⟩
    · refine sat_fold (fun (s : Dk × List Int) => IsOrd n s.2 ∧ DkOk s.1) ⟨hs, ok2⟩ fun s x _ ⟨q1, q2⟩ => ?_
      obtain ⟨v, d', e3, v0, v1, ok3⟩ := draw_spec (many := (n : Int) - 1) q2 (by omega) (by omega)
      rw [e3, bind_ok]
      have hl := q1.length
      obtain ⟨a, b, ys, zs, g1, g2, g3, g4, g5⟩ := swap_ok (xs := s.2) (p := v) (q := v + 1) v0 (by omega) (by omega) (by omega)
      dsimp only
      rw [g1, ob_some, g2, ob_some, g3, ob_some, g4, ob_some]
      exact sat_ok ⟨g5.trans q1, ok3⟩
end TM
set_option maxRecDepth 100000
namespace D
open VP (iota IsOrd)
end D
set_option maxRecDepth 100000
namespace TM
open PySem VL VP D PySem.SeqAt
open L2 (atI ixN)
end TM
set_option maxRecDepth 100000
namespace TM
open PySem VL VP D PySem.SeqAt
open L2 (atI ixN)
variable {n : Nat} {xs ys zs : List Int} {τ κ υ : Type}
theorem cut_take (l : List τ) {i : Int} (h : 0 ≤ i) : cutD l none (some i) = l.take i.toNat := by
  obtain ⟨k, rfl⟩ : ∃ k : Nat, i = (k : Int) := ⟨i.toNat, by omega⟩
  unfold cutD
  have h1 : HT.sIx l.length l.length (some (k : Int)) = min k l.length := HT.sIx_nat l.length l.length k
  have h2 : HT.sIx l.length 0 none = 0 := HT.sIx_none _ _
  rw [h1, h2, Int.toNat_natCast, Nat.sub_zero, List.drop_zero]
  by_cases hk : k ≤ l.length
  · rw [Nat.min_eq_left hk]
  · rw [Nat.min_eq_right (by omega), List.take_of_length_le (Nat.le_refl _), List.take_of_length_le (by omega)]
end TM
set_option maxRecDepth 100000
namespace D
open VP (iota IsOrd)
variable {n : Nat} {xs ys zs : List Int}
def sw (p i : Nat) : Nat := if i = p then p + 1 else if i = p + 1 then p else i
/-- the first place from p on, of at most k, that stands behind its next -/
def fdn (g : Nat → Nat) : Nat → Nat → Nat
  | 0, p => p
  | k + 1, p => if g p < g (p + 1) then fdn g k (p + 1) else p
/-- the walk: k times the first place that stands behind its next -/
def W (n : Nat) : Nat → (Nat → Nat) → List Int
  | 0, _ => []
  | k + 1, g => ((fdn g (n - 1) 0 : Nat) : Int) :: W n k fun i => g (sw (fdn g (n - 1) 0) i)
/-- how many pairs stand wrong -/
def iv (n : Nat) (g : Nat → Nat) : Nat := inv n (fun i => i) g
end D
set_option maxRecDepth 100000
set_option maxHeartbeats 0
namespace K78
open PySem PySem.Spec PyProof.Rows L2 VL VP
def top (i : Nat) : Stmt := PySem.Challenge.pw_farorders_k78_texts_of_no_orders.main.body.getD i (.Pass ⟨0, 0, 0, 0⟩)
abbrev s_is_number : Stmt := top 21
abbrev s_is_whole : Stmt := top 13
abbrev s_is_order : Stmt := top 14
abbrev s_read_order : Stmt := top 22
abbrev s_is_orders : Stmt := top 17
abbrev s_read_orders : Stmt := top 23
abbrev s_show_order : Stmt := top 19
abbrev s_show_orders : Stmt := top 20
abbrev s__law_asked : Stmt := top 31
abbrev s__law_draw : Stmt := top 26
abbrev s__law_changed : Stmt := top 35
abbrev s__law_written : Stmt := top 29
abbrev s__law_list_written : Stmt := top 30
abbrev s__law_odd : Stmt := top 36
abbrev s__law_order : Stmt := top 27
abbrev s__law_pool : Stmt := top 25
abbrev s__law_number : Stmt := top 32
abbrev s__law_read : Stmt := top 33
abbrev s__law_read_list : Stmt := top 34
abbrev s__law_texts_right : Stmt := top 37
abbrev s_law : Stmt := top 38
/-- what the module holds -/
structure Fc (K : PySem.W.Frag) (mg : Str → Option Value) : Prop where
  ex : ExF K mg ["NoOrder", "NoText"] ["NoFit", "NoName", "NoNumber", "NoOrder", "NoPlace", "NoRow", "NoText", "NoWay", "OrderError", "TooMany"]
  x_NoText : XC K mg "NoText"
  f_ValueError : mg "ValueError" = none
  f_bool : mg "bool" = none
  f_int : mg "int" = none
  f_isinstance : mg "isinstance" = none
  f_len : mg "len" = none
  f_list : mg "list" = none
  f_max : mg "max" = none
  f_min : mg "min" = none
  f_range : mg "range" = none
  f_sorted : mg "sorted" = none
  f_str : mg "str" = none
  i_MOST_THINGS : ∃ t, mg "MOST_THINGS" = some (.int 12 t)
  s_FIGURES : ∃ t, mg "FIGURES" = some (.str "0123456789" t)
/-- 0: word, 1: sign -/
def b_is_number : FS :=
  (sSeq (sIf (tOr (tNot (fTest (fChain oLe oLe (fC (.int 1)) (fCB gLen (aCons (fVar 0) aNil)) (fC (.int 2))))) (fTest (fBin oNe (fLc (iText (fVar 0)) (gN 1) (fTest (fBin oNotIn (fVar 1) (fC (.str "0123456789")))) (fVar 1) [1]) (fLst dNil)))) (sRetO (fC (.bool false))) sNil)
  (sRetO (fOrV (fBin oEq (fCB gLen (aCons (fVar 0) aNil)) (fC (.int 1))) (fBin oNe (fBin oIx (fVar 0) (fC (.int 0))) (fC (.str "0"))))))
def h_is_number : Fn := runF b_is_number 2
/-- 0: text, 1: words, 2: order, 3: word -/
def b_read_order : FS :=
  (sSeq (sIf (tNot (fTest (fIsi .str (fVar 0)))) (sRaise "NoText") sNil)
  (sSeq (sAsg 1 (fM1 mSplit (fVar 0) (fC (.str " "))))
  (sSeq (sIf (fTest (fBin oNe (fLc (iSeq (fVar 1)) (gN 3) (tNot (fTest (fCallP h_is_number 1 (aP (fVar 3) aNil)))) (fVar 3) [3]) (fLst dNil))) (sRaise "NoText") sNil)
  (sSeq (sOwn 2 (fLc (iSeq (fVar 1)) (gN 3) tTrue (fCB gIntS (aCons (fVar 3) aNil)) [3]))
  (sSeq (sIf (tNot (fTest (fCallP h_is_order 1 (aP (fVar 2) aNil)))) (sRaise "NoText") sNil)
  (sRetO (fVar 2)))))))
def h_read_order : Fn := runF b_read_order 4
/-- 0: thing, 1: order -/
def b_is_orders : FS :=
  (sSeq (sIf (tOr (tNot (fTest (fIsi .list (fVar 0)))) (fTest (fBin oNe (fLc (iSeq (fVar 0)) (gN 1) (tNot (fTest (fCallP h_is_order 1 (aP (fVar 1) aNil)))) (fVar 1) [1]) (fLst dNil)))) (sRetO (fC (.bool false))) sNil)
  (sRetO (fBin oEq (fLc (iSeq (fVar 0)) (gN 1) (fTest (fBin oNe (fCB gLen (aCons (fVar 1) aNil)) (fCB gLen (aCons (fBin oIx (fVar 0) (fC (.int 0))) aNil)))) (fVar 1) [1]) (fLst dNil))))
def h_is_orders : Fn := runF b_is_orders 2
/-- 0: text, 1: orders, 2: part -/
def b_read_orders : FS :=
  (sSeq (sIf (tNot (fTest (fIsi .str (fVar 0)))) (sRaise "NoText") sNil)
  (sSeq (sIf (fTest (fBin oEq (fVar 0) (fC (.str "-")))) (sRetO (fLst dNil)) sNil)
  (sSeq (sOwn 1 (fLcX (iSeq (fM1 mSplit (fVar 0) (fC (.str ", ")))) (gN 2) (fCall h_read_order 1 [] (aF (fVar 2) aNil)) [2]))
  (sSeq (sIf (tNot (fTest (fCallP h_is_orders 1 (aP (fVar 1) aNil)))) (sRaise "NoText") sNil)
  (sRetO (fVar 1))))))
def h_read_orders : Fn := runF b_read_orders 3
/-- 0: order -/
def b_show_order : FS :=
  sVoid
def h_show_order : Fn := runF b_show_order 1
/-- 0: orders, 1: order -/
def b_show_orders : FS :=
  sVoid
def h_show_orders : Fn := runF b_show_orders 2
/-- 0: way, 1: thing, 2: caught, 3: found, 4: e -/
def b__law_asked : FS :=
  (sSeq (sAsg 2 (fC .none))
  (sSeq (sAsg 3 (fC .none))
  (sSeq (sTryC 4 2 ["NoOrder", "NoText"] [0, 1, 2] (sIf (fTest (fBin oEq (fVar 0) (fC (.str "show")))) (sAsg 3 (fCallP h_show_order 1 (aP (fVar 1) aNil))) (sIf (fTest (fBin oEq (fVar 0) (fC (.str "shows")))) (sAsg 3 (fCallP h_show_orders 1 (aP (fVar 1) aNil))) (sIf (fTest (fBin oEq (fVar 0) (fC (.str "read")))) (sAsg 3 (fCall h_read_order 1 [] (aF (fVar 1) aNil))) (sAsg 3 (fCall h_read_orders 1 [] (aF (fVar 1) aNil)))))))
  (sSeq (sIf (fTest (fIsN false (fVar 2))) (sRetO (fTup (dCons (fC (.str "told")) (dCons (fVar 3) dNil)))) sNil)
  (sSeq (sIf (fTest (fIsX ["NoOrder", "NoText"] ["NoWay", "NoFit", "NoPlace", "NoNumber", "TooMany", "NoName", "NoRow"] (fVar 2))) (sRetO (fTup (dCons (fC (.str "odd")) (dCons (fC .none) dNil)))) sNil)
  (sSeq (sIf (tOr (tNot (fTest (fIsX ["NoOrder", "NoText"] ["ValueError"] (fVar 2)))) (fTest (fBin oEq (fIsX ["NoOrder", "NoText"] ["NoOrder"] (fVar 2)) (fIsX ["NoOrder", "NoText"] ["NoText"] (fVar 2))))) (sRetO (fTup (dCons (fC (.str "odd")) (dCons (fC .none) dNil)))) sNil)
  (sRetO (fTup (dCons (fBin oIx (fLst (dCons (fC (.str "NoText")) (dCons (fC (.str "NoOrder")) dNil))) (fCB gInt (aCons (fIsX ["NoOrder", "NoText"] ["NoOrder"] (fVar 2)) aNil))) (dCons (fC .none) dNil))))))))))
def h__law_asked : Fn := runF b__law_asked 5
/-- 0: pool, 1: many, 2: found, 3: x -/
def b__law_draw : FS :=
  (sSeq (sIf (fTest (fBin oEq (fBin oIx (fVar 0) (fC (.int 1))) (fC (.int 1)))) (sSeq (sOwn 2 (fBin oMod (fBin oIx (fVar 0) (fC (.int 0))) (fVar 1)))
  (sSeq (sPut 0 (fC (.int 0)) (fBin (opI cFdiv fun i j => i / j) (fBin oIx (fVar 0) (fC (.int 0))) (fVar 1)))
  (sRetO (fVar 2)))) sNil)
  (sSeq (sPut 0 (fC (.int 2)) (fBin oAdd (fBin oIx (fVar 0) (fC (.int 2))) (fC (.int 1))))
  (sSeq (sAsg 3 (fBin oMod (fBin oAdd (fBin oMod (fBin oIx (fVar 0) (fC (.int 0))) (fC (.int 999999999989))) (fBin oMul (fC (.int 440023)) (fBin oIx (fVar 0) (fC (.int 2))))) (fC (.int 999999999989))))
  (sSeq (sAsg 3 (fBin oMod (fBin oMul (fVar 3) (fVar 3)) (fC (.int 1000000000039))))
  (sSeq (sAsg 3 (fBin oMod (fBin oMul (fBin oAdd (fVar 3) (fC (.int 710009))) (fVar 3)) (fC (.int 999999999961))))
  (sRetO (fBin oMod (fBin (opI cFdiv fun i j => i / j) (fVar 3) (fC (.int 7))) (fVar 1))))))))
def h__law_draw : Fn := runF b__law_draw 4
/-- 0: pool, 1: text, 2: signs, 3: sign, 4: at, 5: way, 6: words, 7: k, 8: other, 9: kept -/
def b__law_changed : FS :=
  (sSeq (sAsg 2 (fC (.str "  ,,0123456789-\n\t.;:+!\"#$&'()*/<=>?@ABCDEFGHIJKLMNOPQRSTUVWXYZ")))
  (sSeq (sAsg 2 (fBin oAdd (fVar 2) (fC (.str "[\\]^_`abcdefghijklmnopqrstuvwxyz{|}~"))))
  (sSeq (sAsg 3 (fBin oIx (fVar 2) (fCall h__law_draw 2 [(0, 0)] (aM 0 (aF (fBin oIx (fLst (dCons (fC (.int 14)) (dCons (fCB gLen (aCons (fVar 2) aNil)) dNil))) (fCall h__law_draw 2 [(0, 0)] (aM 0 (aF (fC (.int 2)) aNil)))) aNil)))))
  (sSeq (sAsg 4 (fCall h__law_draw 2 [(0, 0)] (aM 0 (aF (fBin oAdd (fCB gLen (aCons (fVar 1) aNil)) (fC (.int 1))) aNil))))
  (sSeq (sAsg 5 (fCall h__law_draw 2 [(0, 0)] (aM 0 (aF (fC (.int 12)) aNil))))
  (sSeq (sOwn 6 (fM1 mSplit (fVar 1) (fC (.str " "))))
  (sSeq (sAsg 7 (fCall h__law_draw 2 [(0, 0)] (aM 0 (aF (fCB gLen (aCons (fVar 6) aNil)) aNil))))
  (sSeq (sAsg 8 (fCall h__law_draw 2 [(0, 0)] (aM 0 (aF (fCB gLen (aCons (fVar 6) aNil)) aNil))))
  (sSeq (sIf (fTest (fBin oLt (fVar 5) (fC (.int 2)))) (sRetO (fBin oAdd (fBin oAdd (fSl (fVar 1) oNo (oSome (fVar 4))) (fVar 3)) (fSl (fVar 1) (oSome (fBin oAdd (fVar 4) (fVar 5))) oNo))) sNil)
  (sSeq (sIf (fTest (fBin oEq (fVar 5) (fC (.int 2)))) (sRetO (fBin oAdd (fSl (fVar 1) oNo (oSome (fVar 4))) (fSl (fVar 1) (oSome (fBin oAdd (fVar 4) (fC (.int 1)))) oNo))) sNil)
  (sSeq (sIf (fTest (fBin oEq (fVar 5) (fC (.int 3)))) (sSeq (sAsg 9 (fBin oIx (fVar 6) (fVar 7)))
  (sSeq (sPut 6 (fVar 7) (fBin oIx (fVar 6) (fVar 8)))
  (sPut 6 (fVar 8) (fVar 9)))) sNil)
  (sSeq (sIf (fTest (fBin oEq (fVar 5) (fC (.int 4)))) (sExpr (fMth 6 mInsert (dCons (fVar 7) (dCons (fBin oIx (fVar 6) (fVar 8)) dNil)))) sNil)
  (sSeq (sIf (fTest (fBin oEq (fVar 5) (fC (.int 5)))) (sExpr (fMth 6 mPop (dCons (fVar 7) dNil))) sNil)
  (sSeq (sIf (fTest (fBin oEq (fVar 5) (fC (.int 6)))) (sPut 6 (fVar 7) (fUn oStr (fCall h__law_draw 2 [(0, 0)] (aM 0 (aF (fBin oIx (fLst (dCons (fC (.int 14)) (dCons (fC (.int 200)) (dCons (fBin oPow (fC (.int 10)) (fC (.int 25))) dNil)))) (fCall h__law_draw 2 [(0, 0)] (aM 0 (aF (fC (.int 3)) aNil)))) aNil))))) sNil)
  (sSeq (sIf (fTest (fBin oEq (fVar 5) (fC (.int 7)))) (sPut 6 (fVar 7) (fBin oAdd (fC (.str "0")) (fBin oIx (fVar 6) (fVar 7)))) sNil)
  (sSeq (sIf (fTest (fBin oEq (fVar 5) (fC (.int 8)))) (sPut 6 (fVar 7) (fBin oAdd (fBin oIx (fVar 6) (fVar 7)) (fC (.str ",")))) sNil)
  (sSeq (sIf (fTest (fBin oEq (fVar 5) (fC (.int 9)))) (sPut 6 (fVar 7) (fUn (oRepl "," "") (fBin oIx (fVar 6) (fVar 7)))) sNil)
  (sSeq (sIf (fTest (fBin oEq (fVar 5) (fC (.int 10)))) (sOwn 6 (fBin oAdd (fVar 6) (fLst (dCons (fBin oIx (fLst (dCons (fC (.str "0")) (dCons (fC (.str "0,")) (dCons (fC (.str "")) (dCons (fC (.str "-")) (dCons (fC (.str "1 0")) (dCons (fC (.str ", 0 1")) dNil))))))) (fCall h__law_draw 2 [(0, 0)] (aM 0 (aF (fC (.int 6)) aNil)))) dNil)))) sNil)
  (sSeq (sIf (fTest (fBin oEq (fVar 5) (fC (.int 11)))) (sRetO (fBin oAdd (fBin oIx (fLst (dCons (fC (.str ", ")) (dCons (fC (.str " ")) (dCons (fC (.str "- ")) (dCons (fC (.str "0 ")) dNil))))) (fCall h__law_draw 2 [(0, 0)] (aM 0 (aF (fC (.int 4)) aNil)))) (fVar 1))) sNil)
  (sRetO (fM1 mJoin (fC (.str " ")) (fVar 6))))))))))))))))))))))
def h__law_changed : Fn := runF b__law_changed 10
/-- 0: order, 1: thing -/
def b__law_written : FS :=
  (sRetO (fM1 mJoin (fC (.str " ")) (fLc (iSeq (fVar 0)) (gN 1) tTrue (fUn oStr (fVar 1)) [1])))
def h__law_written : Fn := runF b__law_written 2
/-- 0: orders, 1: order -/
def b__law_list_written : FS :=
  (sRetO (fIf (fTest (fBin oNe (fVar 0) (fLst dNil))) (fM1 mJoin (fC (.str ", ")) (fLc (iSeq (fVar 0)) (gN 1) tTrue (fCallP h__law_written 1 (aP (fVar 1) aNil)) [1])) (fC (.str "-"))))
def h__law_list_written : Fn := runF b__law_list_written 2
/-- 0: pool, 1: some -/
def b__law_odd : FS :=
  (sSeq (sAsg 1 (fLst (dCons (fC (.str "")) (dCons (fC (.str " ")) (dCons (fC (.str "-")) (dCons (fC (.str "--")) (dCons (fC (.str "- ")) (dCons (fC (.str ",")) (dCons (fC (.str ", ")) (dCons (fC (.str "0")) (dCons (fC (.str "1")) dNil)))))))))))
  (sSeq (sAsg 1 (fBin oAdd (fVar 1) (fLst (dCons (fC (.str "0 0")) (dCons (fC (.str "1 0")) (dCons (fC (.str "01")) (dCons (fC (.str "0 01")) (dCons (fC (.str "0,")) (dCons (fC (.str "0, 0")) (dCons (fC (.str "0,0")) (dCons (fC (.str "0,  0")) (dCons (fC (.str "0 1, 0")) dNil))))))))))))
  (sSeq (sAsg 1 (fBin oAdd (fVar 1) (fLst (dCons (fC (.str "0, -")) (dCons (fC (.str "-, 0")) (dCons (fC (.str "0\n")) (dCons (fC (.str "0\t1")) (dCons (fC (.str "+0")) (dCons (fC (.str "0 1 3")) dNil)))))))))
  (sSeq (sAsg 1 (fBin oAdd (fVar 1) (fLst (dCons (fC (.str "0 2")) (dCons (fC (.str "0.0")) (dCons (fC (.str "0 1 2 3 4 5 6 7 8 9 10 11")) (dCons (fC (.str "0 , 0")) (dCons (fC (.str "0, 0, 0 ")) dNil))))))))
  (sSeq (sAsg 1 (fBin oAdd (fVar 1) (fLst (dCons (fC (.str "0 1 2 3 4 5 6 7 8 9 10 11 12")) (dCons (fC (.str "11 10 9 8 7 6 5 4 3 2 1 0")) (dCons (fC (.str "0 1, 1 0, 0 1")) dNil))))))
  (sSeq (sAsg 1 (fBin oAdd (fVar 1) (fLst (dCons (fC (.str "a")) (dCons (fC (.str "0 1 10")) (dCons (fC (.str "1 0, 0")) (dCons (fC (.str "0 1 2 3 4 5 6 7 8 9 10 11 12, 0 1 2 3 4 5 6 7 8 9 10 11 12")) dNil)))))))
  (sRetO (fBin oIx (fVar 1) (fCall h__law_draw 2 [(0, 0)] (aM 0 (aF (fC (.int 36)) aNil)))))))))))
def h__law_odd : Fn := runF b__law_odd 2
/-- 0: pool, 1: n, 2: left, 3: k -/
def b__law_order : FS :=
  (sSeq (sOwn 2 (fListRg1 (fVar 1)))
  (sRetO (fLc (iRange1 (fVar 1)) (gN 3) tTrue (fMth 2 mPop (dCons (fCall h__law_draw 2 [(0, 0)] (aM 0 (aF (fCB gLen (aCons (fVar 2) aNil)) aNil))) dNil)) [3])))
def h__law_order : Fn := runF b__law_order 4
/-- 0: script, 1: k, 2: cell -/
def b__law_pool : FS :=
  (sSeq (sAsg 2 (fC (.int 0)))
  (sSeq (sIf (fTest (fBin oLt (fVar 1) (fScLen (fVar 0)))) (sAsg 2 (fScIx (fVar 0) (fVar 1))) sNil)
  (sRetO (fLst (dCons (fVar 2) (dCons (fCB gInt (aCons (fBin oGe (fVar 2) (fBin oPow (fC (.int 10)) (fC (.int 18)))) aNil)) (dCons (fBin oMul (fC (.int 37)) (fVar 1)) dNil)))))))
def h__law_pool : Fn := runF b__law_pool 3
/-- 0: word, 1: sign -/
def b__law_number : FS :=
  (sSeq (sIf (tOr (tNot (fTest (fChain oLe oLe (fC (.int 1)) (fCB gLen (aCons (fVar 0) aNil)) (fC (.int 2))))) (fTest (fBin oNe (fLc (iText (fVar 0)) (gN 1) (fTest (fBin oNotIn (fVar 1) (fC (.str "0123456789")))) (fVar 1) [1]) (fLst dNil)))) (sRetO (fC .none)) sNil)
  (sSeq (sIf (tAnd (fTest (fBin oEq (fCB gLen (aCons (fVar 0) aNil)) (fC (.int 2)))) (fTest (fBin oEq (fBin oIx (fVar 0) (fC (.int 0))) (fC (.str "0"))))) (sRetO (fC .none)) sNil)
  (sRetO (fCB gIntS (aCons (fVar 0) aNil)))))
def h__law_number : Fn := runF b__law_number 2
/-- 0: text, 1: found, 2: word -/
def b__law_read : FS :=
  (sSeq (sOwn 1 (fLc (iSeq (fM1 mSplit (fVar 0) (fC (.str " ")))) (gN 2) tTrue (fCallP h__law_number 1 (aP (fVar 2) aNil)) [2]))
  (sSeq (sIf (tOr (fTest (fBin oIn (fC .none) (fVar 1))) (tOr (fTest (fBin oNe (fCB gSorted (aCons (fVar 1) aNil)) (fListRg1 (fCB gLen (aCons (fVar 1) aNil))))) (fTest (fBin oGt (fCB gLen (aCons (fVar 1) aNil)) (fC (.int 12)))))) (sRetO (fC .none)) sNil)
  (sRetO (fVar 1))))
def h__law_read : Fn := runF b__law_read 3
/-- 0: text, 1: found, 2: part, 3: order -/
def b__law_read_list : FS :=
  (sSeq (sIf (fTest (fBin oEq (fVar 0) (fC (.str "-")))) (sRetO (fLst dNil)) sNil)
  (sSeq (sOwn 1 (fLc (iSeq (fM1 mSplit (fVar 0) (fC (.str ", ")))) (gN 2) tTrue (fCall h__law_read 1 [] (aF (fVar 2) aNil)) [2]))
  (sSeq (sIf (tOr (fTest (fBin oIn (fC .none) (fVar 1))) (fTest (fBin oNe (fLc (iSeq (fVar 1)) (gN 3) (fTest (fBin oNe (fCB gLen (aCons (fVar 3) aNil)) (fCB gLen (aCons (fBin oIx (fVar 1) (fC (.int 0))) aNil)))) (fVar 3) [3]) (fLst dNil)))) (sRetO (fC .none)) sNil)
  (sRetO (fVar 1)))))
def h__law_read_list : Fn := runF b__law_read_list 4
/-- 0: text, 1: due -/
def b__law_texts_right : FS :=
  (sSeq (sAsg 1 (fCall h__law_read 1 [] (aF (fVar 0) aNil)))
  (sSeq (sIf (fTest (fBin oNe (fCall h__law_asked 2 [] (aF (fC (.str "read")) (aF (fVar 0) aNil))) (fTup (dCons (fBin oIx (fLst (dCons (fC (.str "told")) (dCons (fC (.str "NoText")) dNil))) (fCB gInt (aCons (fBin oIs (fVar 1) (fC .none)) aNil))) (dCons (fVar 1) dNil))))) (sRetO (fC (.bool false))) sNil)
  (sSeq (sAsg 1 (fCall h__law_read_list 1 [] (aF (fVar 0) aNil)))
  (sRetO (fBin oEq (fCall h__law_asked 2 [] (aF (fC (.str "reads")) (aF (fVar 0) aNil))) (fTup (dCons (fBin oIx (fLst (dCons (fC (.str "told")) (dCons (fC (.str "NoText")) dNil))) (fCB gInt (aCons (fBin oIs (fVar 1) (fC .none)) aNil))) (dCons (fVar 1) dNil))))))))
def h__law_texts_right : Fn := runF b__law_texts_right 2
/-- 0: script, 1: k, 2: pool, 3: n, 4: most, 5: orders, 6: text, 7: turn, 8: other, 9: things, 10: thing -/
def b_law : FS :=
  (sSeq (sFor (iRange1 (fCB gMax (aCons (fC (.int 1)) (aCons (fCB gMin (aCons (fC (.int 12)) (aCons (fScLen (fVar 0)) aNil))) aNil)))) (gN 1) (sSeq (sOwn 2 (fCall h__law_pool 2 [] (aF (fVar 0) (aF (fVar 1) aNil))))
  (sSeq (sAsg 3 (fBin oAdd (fC (.int 1)) (fCall h__law_draw 2 [(0, 2)] (aM 2 (aF (fC (.int 12)) aNil)))))
  (sSeq (sAsg 4 (fBin oIx (fLst (dCons (fC (.int 5)) (dCons (fCB gMin (aCons (fC (.int 120)) (aCons (fBin (opI cFdiv fun i j => i / j) (fC (.int 480)) (fBin oAdd (fBin oMul (fC (.int 2)) (fVar 3)) (fC (.int 3)))) aNil))) dNil))) (fCB gInt (aCons (fBin oEq (fVar 1) (fC (.int 0))) aNil))))
  (sSeq (sOwn 5 (fLc (iRange1 (fBin oAdd (fC (.int 1)) (fCall h__law_draw 2 [(0, 2)] (aM 2 (aF (fVar 4) aNil))))) (gN 7) tTrue (fCall h__law_order 2 [(0, 2)] (aM 2 (aF (fVar 3) aNil))) [7]))
  (sSeq (sIf (fTest (fBin oEq (fCall h__law_draw 2 [(0, 2)] (aM 2 (aF (fC (.int 6)) aNil))) (fC (.int 0)))) (sPut 5 (fBin oIx (fLst (dCons (fCall h__law_draw 2 [(0, 2)] (aM 2 (aF (fCB gLen (aCons (fVar 5) aNil)) aNil))) (dCons (fUn oNeg (fC (.int 1))) dNil))) (fCall h__law_draw 2 [(0, 2)] (aM 2 (aF (fC (.int 2)) aNil)))) (fCall h__law_order 2 [(0, 2)] (aM 2 (aF (fBin oAdd (fC (.int 1)) (fCall h__law_draw 2 [(0, 2)] (aM 2 (aF (fC (.int 12)) aNil)))) aNil)))) sNil)
  (sSeq (sFor (iSeq (fLst (dCons (fCallP h__law_written 1 (aP (fBin oIx (fVar 5) (fC (.int 0))) aNil)) (dCons (fCallP h__law_list_written 1 (aP (fVar 5) aNil)) dNil)))) (gN 6) (sSeq (sIf (tNot (fTest (fCallP h__law_texts_right 1 (aP (fVar 6) aNil)))) (sRetO (fC (.bool false))) sNil)
  (sFor (iRange1 (fC (.int 4))) (gN 7) (sSeq (sAsg 8 (fCall h__law_changed 2 [(0, 2)] (aM 2 (aF (fVar 6) aNil))))
  (sSeq (sIf (fTest (fBin oEq (fCall h__law_draw 2 [(0, 2)] (aM 2 (aF (fC (.int 4)) aNil))) (fC (.int 0)))) (sAsg 8 (fCall h__law_changed 2 [(0, 2)] (aM 2 (aF (fVar 8) aNil)))) sNil)
  (sIf (tNot (fTest (fCallP h__law_texts_right 1 (aP (fSl (fVar 8) oNo (oSome (fC (.int 500)))) aNil)))) (sRetO (fC (.bool false))) sNil))) [7, 8])) [6, 7, 8])
  (sSeq (sIf (tNot (fTest (fCallP h__law_texts_right 1 (aP (fCall h__law_odd 1 [(0, 2)] (aM 2 aNil)) aNil)))) (sRetO (fC (.bool false))) sNil)
  (sSeq (sAsg 9 (fLst (dCons (fC .none) (dCons (fC (.int 0)) (dCons (fC (.int 1)) (dCons (fC (.bool true)) (dCons (fLst (dCons (fC (.int 0)) dNil)) (dCons (fLst (dCons (fC (.str "0")) dNil)) (dCons (fTup (dCons (fC (.int 0)) (dCons (fC (.int 1)) dNil))) (dCons fDNew (dCons (fLst (dCons (fLst (dCons (fC (.int 0)) dNil)) dNil)) (dCons (fVar 5) (dCons (fBin oIx (fVar 5) (fC (.int 0))) (dCons (fTup dNil) dNil))))))))))))))
  (sSeq (sAsg 10 (fBin oIx (fVar 9) (fCall h__law_draw 2 [(0, 2)] (aM 2 (aF (fC (.int 12)) aNil)))))
  (sIf (tOr (fTest (fBin oNe (fCall h__law_asked 2 [] (aF (fC (.str "read")) (aF (fVar 10) aNil))) (fTup (dCons (fC (.str "NoText")) (dCons (fC .none) dNil))))) (fTest (fBin oNe (fCall h__law_asked 2 [] (aF (fC (.str "reads")) (aF (fVar 10) aNil))) (fTup (dCons (fC (.str "NoText")) (dCons (fC .none) dNil)))))) (sRetO (fC (.bool false))) sNil)))))))))) [1, 2, 3, 4, 5, 6, 7, 8, 9, 10])
  (sRetO (fC (.bool true))))
def h_law : Fn := runF b_law 11
end K78
set_option maxRecDepth 100000
set_option maxHeartbeats 0
namespace K78
open PySem PySem.Spec PyProof.Rows L2 VL VP
section
variable {P : Program} {w : World} {K : PySem.W.Frag} {mg : Str → Option Value} {base : Heap} {ρ : Nat → Res}
theorem ok_is_number {a : Addr} {fd : FuncData} (F : FunD K "is_number" "is_number" (defArgs s_is_number) (defBody s_is_number) (defScope s_is_number) [] [] a fd) (gm : mg "is_number" = some (.ref a)) (z : Fc K mg)  : CalK P w K mg base ρ "is_number" 1 [] h_is_number 2 :=
  cal_mk (N := ["word", "sign"]) (ps := ["word"]) (k := 1) (g := b_is_number) [] F gm ⟨rfl, rfl, rfl, by decide +kernel, rfl, by decide +kernel, by decide +kernel⟩ (by decide) (fun _ _ _ _ _ _ us hl => match us, hl with | [_], _ => rfl) (fun cdv A outer s H E hr V0 => by
    exact
  (vss_cons (vs_if (VW.vt (vw_or (vt_not (vt_chain v_le v_le ve_int (ve_cb (v_len) z.f_len b_len (va_cons (ve_var 0) va_nil)) ve_int)) (vw_or1 (vt_cmp (v_ne (by have := V0.room.un; omega)) (ve_lc V0 [("sign", 1)] (t := (gName 1)) (vi_text (ve_var 0)) (by kernel_rfl) (fun _ _ _ _ _ => pg_name V0.nd rfl (Or.inl rfl)) (sg_name (by decide)) (wg_name (by decide)) (fun s H C cl fp V0 => (vc_if (vt_cmp (v_notIn (by have := V0.room.un; omega)) (ve_var 1) (ve_gstr z.s_FIGURES)))) (fun s H C cl fp V0 => (ve_var 1))) (ve_lst vd_nil))))) (vss_one (vs_retO ve_bl)) vss_nil)
  (vss_one (vs_retO (ve_or (ve_cmp (v_eq (by have := V0.room.un; omega)) (ve_cb (v_len) z.f_len b_len (va_cons (ve_var 0) va_nil)) ve_int) (ve_one (ve_cmp (v_ne (by have := V0.room.un; omega)) (ve_ix (ve_var 0) ve_int) ve_str))))))) (by decide)
theorem ok_is_whole {a : Addr} {fd : FuncData} (F : FunD K "is_whole" "is_whole" (defArgs s_is_whole) (defBody s_is_whole) (defScope s_is_whole) [] [] a fd) (gm : mg "is_whole" = some (.ref a)) (z : Fc K mg)  : CalK P w K mg base ρ "is_whole" 1 [] h_is_whole 2 :=
  cal_mk (N := ["thing"]) (ps := ["thing"]) (k := 1) (g := b_is_whole) [] F gm ⟨rfl, rfl, rfl, by decide +kernel, rfl, by decide +kernel, by decide +kernel⟩ (by decide) (fun _ _ _ _ _ _ us hl => match us, hl with | [_], _ => rfl) (fun cdv A outer s H E hr V0 => by
    exact
  (vss_one (vs_retO (ve_and (ve_isi .int (ve_var 0) z.f_isinstance z.f_int b_int) (ve_one (ve_not (ve_isi .bool (ve_var 0) z.f_isinstance z.f_bool b_bool))))))) (by decide)
theorem ok_is_order {a : Addr} {fd : FuncData} (F : FunD K "is_order" "is_order" (defArgs s_is_order) (defBody s_is_order) (defScope s_is_order) [] [] a fd) (gm : mg "is_order" = some (.ref a)) (z : Fc K mg) (c_is_whole : CalK P w K mg base ρ "is_whole" 1 [] h_is_whole 2) : CalK P w K mg base ρ "is_order" 1 [] h_is_order 3 :=
  cal_mk (N := ["thing", "one"]) (ps := ["thing"]) (k := 2) (g := b_is_order) [] F gm ⟨rfl, rfl, rfl, by decide +kernel, rfl, by decide +kernel, by decide +kernel⟩ (by decide) (fun _ _ _ _ _ _ us hl => match us, hl with | [_], _ => rfl) (fun cdv A outer s H E hr V0 => by
    exact
  (vss_cons (vs_if (VW.vt (vw_or (vt_not (vt_of (fun _ => rfl) (ve_isi .list (ve_var 0) z.f_isinstance z.f_list b_list))) (vw_or1 (vt_not (vt_chain v_le v_le ve_int (ve_cb (v_len) z.f_len b_len (va_cons (ve_var 0) va_nil)) (ve_gint z.i_MOST_THINGS)))))) (vss_one (vs_retO ve_bl)) vss_nil)
  (vss_cons (vs_if (vt_cmp (v_ne (by have := V0.room.un; omega)) (ve_lc V0 [("one", 1)] (t := (gName 1)) (vi_seq (ve_var 0)) (by kernel_rfl) (fun _ _ _ _ _ => pg_name V0.nd rfl (Or.inl rfl)) (sg_name (by decide)) (wg_name (by decide)) (fun s H C cl fp V0 => (vc_if (vt_not (vt_of (fun _ => rfl) (ve_callP V0 c_is_whole.c (hr.mono (by decide)) (va_P (ve_var 1) va_nil)))))) (fun s H C cl fp V0 => (ve_var 1))) (ve_lst vd_nil)) (vss_one (vs_retO ve_bl)) vss_nil)
  (vss_one (vs_retO (ve_cmp (v_eq (by have := V0.room.un; omega)) (ve_cb (v_sorted) z.f_sorted b_sorted (va_cons (ve_var 0) va_nil)) (ve_listRg1 V0.calm z.f_list z.f_range (ve_cb (v_len) z.f_len b_len (va_cons (ve_var 0) va_nil))))))))) (by decide)
theorem ok_read_order {a : Addr} {fd : FuncData} (F : FunD K "read_order" "read_order" (defArgs s_read_order) (defBody s_read_order) (defScope s_read_order) [] [] a fd) (gm : mg "read_order" = some (.ref a)) (z : Fc K mg) (c_is_number : CalK P w K mg base ρ "is_number" 1 [] h_is_number 2) (c_is_order : CalK P w K mg base ρ "is_order" 1 [] h_is_order 3) : CalK P w K mg base ρ "read_order" 1 [] h_read_order 4 :=
  cal_mk (N := ["text", "words", "order", "word"]) (ps := ["text"]) (k := 3) (g := b_read_order) [] F gm ⟨rfl, rfl, rfl, by decide +kernel, rfl, by decide +kernel, by decide +kernel⟩ (by decide) (fun _ _ _ _ _ _ us hl => match us, hl with | [_], _ => rfl) (fun cdv A outer s H E hr V0 => by
    exact
  (vss_cons (vs_if (vt_not (vt_of (fun _ => rfl) (ve_isi .str (ve_var 0) z.f_isinstance z.f_str b_str))) (vss_one (vs_raise V0 z.x_NoText)) vss_nil)
  (vss_cons (vs_asg V0.nd 1 (ve_m1 v_split PySem.F.slot_str_split PySem.F.type_str_split (ve_var 0) ve_str))
  (vss_cons (vs_if (vt_cmp (v_ne (by have := V0.room.un; omega)) (ve_lc V0 [("word", 3)] (t := (gName 3)) (vi_seq (ve_var 1)) (by kernel_rfl) (fun _ _ _ _ _ => pg_name V0.nd rfl (Or.inl rfl)) (sg_name (by decide)) (wg_name (by decide)) (fun s H C cl fp V0 => (vc_if (vt_not (vt_of (fun _ => rfl) (ve_callP V0 c_is_number.c (hr.mono (by decide)) (va_P (ve_var 3) va_nil)))))) (fun s H C cl fp V0 => (ve_var 3))) (ve_lst vd_nil)) (vss_one (vs_raise V0 z.x_NoText)) vss_nil)
  (vss_cons (vs_asgLc V0 2 [("word", 3)] (t := (gName 3)) (vi_seq (ve_var 1)) (by kernel_rfl) (fun _ _ _ _ _ => pg_name V0.nd rfl (Or.inl rfl)) (sg_name (by decide)) (wg_name (by decide)) (fun s H C cl fp V0 => vc_no) (fun s H C cl fp V0 => (ve_ct v_intS z.f_int b_int (va_cons (ve_var 3) va_nil))) (sw_true rfl rfl rfl (by decide +kernel))).2
  (vss_cons (vs_if (vt_not (vt_of (fun _ => rfl) (ve_callP V0 c_is_order.c (hr.mono (by decide)) (va_P (ve_var 2) va_nil)))) (vss_one (vs_raise V0 z.x_NoText)) vss_nil)
  (vss_one (vs_retO (ve_var 2))))))))) (by decide)
theorem ok_is_orders {a : Addr} {fd : FuncData} (F : FunD K "is_orders" "is_orders" (defArgs s_is_orders) (defBody s_is_orders) (defScope s_is_orders) [] [] a fd) (gm : mg "is_orders" = some (.ref a)) (z : Fc K mg) (c_is_order : CalK P w K mg base ρ "is_order" 1 [] h_is_order 3) : CalK P w K mg base ρ "is_orders" 1 [] h_is_orders 4 :=
  cal_mk (N := ["thing", "order"]) (ps := ["thing"]) (k := 3) (g := b_is_orders) [] F gm ⟨rfl, rfl, rfl, by decide +kernel, rfl, by decide +kernel, by decide +kernel⟩ (by decide) (fun _ _ _ _ _ _ us hl => match us, hl with | [_], _ => rfl) (fun cdv A outer s H E hr V0 => by
    exact
  (vss_cons (vs_if (VW.vt (vw_or (vt_not (vt_of (fun _ => rfl) (ve_isi .list (ve_var 0) z.f_isinstance z.f_list b_list))) (vw_or1 (vt_cmp (v_ne (by have := V0.room.un; omega)) (ve_lc V0 [("order", 1)] (t := (gName 1)) (vi_seq (ve_var 0)) (by kernel_rfl) (fun _ _ _ _ _ => pg_name V0.nd rfl (Or.inl rfl)) (sg_name (by decide)) (wg_name (by decide)) (fun s H C cl fp V0 => (vc_if (vt_not (vt_of (fun _ => rfl) (ve_callP V0 c_is_order.c (hr.mono (by decide)) (va_P (ve_var 1) va_nil)))))) (fun s H C cl fp V0 => (ve_var 1))) (ve_lst vd_nil))))) (vss_one (vs_retO ve_bl)) vss_nil)
  (vss_one (vs_retO (ve_cmp (v_eq (by have := V0.room.un; omega)) (ve_lc V0 [("order", 1)] (t := (gName 1)) (vi_seq (ve_var 0)) (by kernel_rfl) (fun _ _ _ _ _ => pg_name V0.nd rfl (Or.inl rfl)) (sg_name (by decide)) (wg_name (by decide)) (fun s H C cl fp V0 => (vc_if (vt_cmp (v_ne (by have := V0.room.un; omega)) (ve_cb (v_len) z.f_len b_len (va_cons (ve_var 1) va_nil)) (ve_cb (v_len) z.f_len b_len (va_cons (ve_ix (ve_var 0) ve_int) va_nil))))) (fun s H C cl fp V0 => (ve_var 1))) (ve_lst vd_nil)))))) (by decide)
theorem ok_read_orders {a : Addr} {fd : FuncData} (F : FunD K "read_orders" "read_orders" (defArgs s_read_orders) (defBody s_read_orders) (defScope s_read_orders) [] [] a fd) (gm : mg "read_orders" = some (.ref a)) (z : Fc K mg) (c_is_orders : CalK P w K mg base ρ "is_orders" 1 [] h_is_orders 4) (c_read_order : CalK P w K mg base ρ "read_order" 1 [] h_read_order 4) : CalK P w K mg base ρ "read_orders" 1 [] h_read_orders 5 :=
  cal_mk (N := ["text", "orders", "part"]) (ps := ["text"]) (k := 4) (g := b_read_orders) [] F gm ⟨rfl, rfl, rfl, by decide +kernel, rfl, by decide +kernel, by decide +kernel⟩ (by decide) (fun _ _ _ _ _ _ us hl => match us, hl with | [_], _ => rfl) (fun cdv A outer s H E hr V0 => by
    exact
  (vss_cons (vs_if (vt_not (vt_of (fun _ => rfl) (ve_isi .str (ve_var 0) z.f_isinstance z.f_str b_str))) (vss_one (vs_raise V0 z.x_NoText)) vss_nil)
  (vss_cons (vs_if (vt_cmp (v_eq (by have := V0.room.un; omega)) (ve_var 0) ve_str) (vss_one (vs_retO (ve_lst vd_nil))) vss_nil)
  (vss_cons (vs_asgLcX V0 1 [("part", 2)] (t := (gName 2)) (vi_seq (ve_m1 v_split PySem.F.slot_str_split PySem.F.type_str_split (ve_var 0) ve_str)) (by kernel_rfl) (fun _ _ _ _ _ _ => pg_name V0.nd rfl (Or.inl rfl)) (sg_name (by decide)) (wg_name (by decide)) (fun W' s H C cl fp xe V0 => (ve_call (mi := []) V0 c_read_order.c (hr.mono (by decide)) (va_F (ve_var 2) va_nil))) (sw_true rfl rfl rfl (by decide +kernel))).2
  (vss_cons (vs_if (vt_not (vt_of (fun _ => rfl) (ve_callP V0 c_is_orders.c (hr.mono (by decide)) (va_P (ve_var 1) va_nil)))) (vss_one (vs_raise V0 z.x_NoText)) vss_nil)
  (vss_one (vs_retO (ve_var 1)))))))) (by decide)
theorem ok_show_order {a : Addr} {fd : FuncData} (F : FunD K "show_order" "show_order" (defArgs s_show_order) (defBody s_show_order) (defScope s_show_order) [] [] a fd) (gm : mg "show_order" = some (.ref a)) (z : Fc K mg)  : CalK P w K mg base ρ "show_order" 1 [] h_show_order 2 :=
  cal_mk (N := ["order"]) (ps := ["order"]) (k := 1) (g := b_show_order) [] F gm ⟨rfl, rfl, rfl, by decide +kernel, rfl, by decide +kernel, by decide +kernel⟩ (by decide) (fun _ _ _ _ _ _ us hl => match us, hl with | [_], _ => rfl) (fun cdv A outer s H E hr V0 => by
    exact
  vss_void) (by decide)
theorem ok_show_orders {a : Addr} {fd : FuncData} (F : FunD K "show_orders" "show_orders" (defArgs s_show_orders) (defBody s_show_orders) (defScope s_show_orders) [] [] a fd) (gm : mg "show_orders" = some (.ref a)) (z : Fc K mg)  : CalK P w K mg base ρ "show_orders" 1 [] h_show_orders 2 :=
  cal_mk (N := ["orders", "order"]) (ps := ["orders"]) (k := 1) (g := b_show_orders) [] F gm ⟨rfl, rfl, rfl, by decide +kernel, rfl, by decide +kernel, by decide +kernel⟩ (by decide) (fun _ _ _ _ _ _ us hl => match us, hl with | [_], _ => rfl) (fun cdv A outer s H E hr V0 => by
    exact
  vss_void) (by decide)
theorem ok__law_asked {a : Addr} {fd : FuncData} (F : FunD K "_law_asked" "_law_asked" (defArgs s__law_asked) (defBody s__law_asked) (defScope s__law_asked) [] [] a fd) (gm : mg "_law_asked" = some (.ref a)) (z : Fc K mg) (c_read_order : CalK P w K mg base ρ "read_order" 1 [] h_read_order 4) (c_read_orders : CalK P w K mg base ρ "read_orders" 1 [] h_read_orders 5) (c_show_order : CalK P w K mg base ρ "show_order" 1 [] h_show_order 2) (c_show_orders : CalK P w K mg base ρ "show_orders" 1 [] h_show_orders 2) : CalK P w K mg base ρ "_law_asked" 2 [] h__law_asked 6 :=
  cal_mk (N := ["way", "thing", "caught", "found", "e"]) (ps := ["way", "thing"]) (k := 5) (g := b__law_asked) [] F gm ⟨rfl, rfl, rfl, by decide +kernel, rfl, by decide +kernel, by decide +kernel⟩ (by decide) (fun _ _ _ _ _ _ us hl => match us, hl with | [_, _], _ => rfl) (fun cdv A outer s H E hr V0 => by
    exact
  (vss_cons (vs_asg V0.nd 2 ve_non)
  (vss_cons (vs_asg V0.nd 3 ve_non)
  (vss_cons (vs_tryC V0 4 2 ["NoOrder", "NoText"] [0, 1, 2] ⟨by rfl, by decide, .inl z.ex.oe⟩ z.ex.exm (fun W' p2 xe V0 => (vss_one (vs_if (vt_cmp (v_eq (by have := V0.room.un; omega)) (ve_var 0) ve_str) (vss_one (vs_asg V0.nd 3 (ve_callP V0 c_show_order.c (hr.mono (by decide)) (va_P (ve_var 1) va_nil)))) (vss_one (vs_if (vt_cmp (v_eq (by have := V0.room.un; omega)) (ve_var 0) ve_str) (vss_one (vs_asg V0.nd 3 (ve_callP V0 c_show_orders.c (hr.mono (by decide)) (va_P (ve_var 1) va_nil)))) (vss_one (vs_if (vt_cmp (v_eq (by have := V0.room.un; omega)) (ve_var 0) ve_str) (vss_one (vs_asg V0.nd 3 (ve_call (mi := []) V0 c_read_order.c (hr.mono (by decide)) (va_F (ve_var 1) va_nil)))) (vss_one (vs_asg V0.nd 3 (ve_call (mi := []) V0 c_read_orders.c (hr.mono (by decide)) (va_F (ve_var 1) va_nil))))))))))))
  (vss_cons (vs_if (vt_isN (ve_var 2)) (vss_one (vs_retO (ve_tup (vd_cons ve_str (vd_cons (ve_var 3) vd_nil))))) vss_nil)
  (vss_cons (vs_if (vt_of (fun _ => rfl) (ve_isXT z.ex (ve_var 2) z.f_isinstance (.cons rfl (by decide) (by decide) rfl (.cons rfl (by decide) (by decide) rfl (.cons rfl (by decide) (by decide) rfl (.cons rfl (by decide) (by decide) rfl (.cons rfl (by decide) (by decide) rfl (.cons rfl (by decide) (by decide) rfl (.cons rfl (by decide) (by decide) rfl .nil))))))))) (vss_one (vs_retO (ve_tup (vd_cons ve_str (vd_cons ve_non vd_nil))))) vss_nil)
  (vss_cons (vs_if (VW.vt (vw_or (vt_not (vt_of (fun _ => rfl) (ve_isX z.ex (ve_var 2) z.f_isinstance))) (vw_or1 (vt_cmp (v_eq (by have := V0.room.un; omega)) (ve_isX z.ex (ve_var 2) z.f_isinstance) (ve_isX z.ex (ve_var 2) z.f_isinstance))))) (vss_one (vs_retO (ve_tup (vd_cons ve_str (vd_cons ve_non vd_nil))))) vss_nil)
  (vss_one (vs_retO (ve_tup (vd_cons (ve_ix (ve_lst (vd_cons ve_str (vd_cons ve_str vd_nil))) (ve_ct v_int z.f_int b_int (va_cons (ve_isX z.ex (ve_var 2) z.f_isinstance) va_nil))) (vd_cons ve_non vd_nil)))))))))))) (by decide)
theorem ok__law_draw {a : Addr} {fd : FuncData} (F : FunD K "_law_draw" "_law_draw" (defArgs s__law_draw) (defBody s__law_draw) (defScope s__law_draw) [] [] a fd) (gm : mg "_law_draw" = some (.ref a)) (z : Fc K mg)  : CalK P w K mg base ρ "_law_draw" 2 [0] h__law_draw 2 :=
  cal_mk (N := ["pool", "many", "found", "x"]) (ps := ["pool", "many"]) (k := 1) (g := b__law_draw) [0] F gm ⟨rfl, rfl, rfl, by decide +kernel, rfl, by decide +kernel, by decide +kernel⟩ (by decide) (fun _ _ _ _ _ _ us hl => match us, hl with | [_, _], _ => rfl) (fun cdv A outer s H E hr V0 => by
    exact
  (vss_cons (vs_if (vt_cmp (v_eq (by have := V0.room.un; omega)) (ve_ix (ve_var 0) ve_int) ve_int) (vss_cons (vs_own V0.nd 2 (ve_op v_mod (ve_ix (ve_var 0) ve_int) (ve_var 1)))
  (vss_cons (vs_put 0 ve_int (ve_op v_fdiv (ve_ix (ve_var 0) ve_int) (ve_var 1)))
  (vss_one (vs_retO (ve_var 2))))) vss_nil)
  (vss_cons (vs_put 0 ve_int (ve_op v_add (ve_ix (ve_var 0) ve_int) ve_int))
  (vss_cons (vs_asg V0.nd 3 (ve_op v_mod (ve_op v_add (ve_op v_mod (ve_ix (ve_var 0) ve_int) ve_int) (ve_op v_mul ve_int (ve_ix (ve_var 0) ve_int))) ve_int))
  (vss_cons (vs_asg V0.nd 3 (ve_op v_mod (ve_op v_mul (ve_var 3) (ve_var 3)) ve_int))
  (vss_cons (vs_asg V0.nd 3 (ve_op v_mod (ve_op v_mul (ve_op v_add (ve_var 3) ve_int) (ve_var 3)) ve_int))
  (vss_one (vs_retO (ve_op v_mod (ve_op v_fdiv (ve_var 3) ve_int) (ve_var 1)))))))))) (by decide)
theorem ok__law_changed {a : Addr} {fd : FuncData} (F : FunD K "_law_changed" "_law_changed" (defArgs s__law_changed) (defBody s__law_changed) (defScope s__law_changed) [] [] a fd) (gm : mg "_law_changed" = some (.ref a)) (z : Fc K mg) (c__law_draw : CalK P w K mg base ρ "_law_draw" 2 [0] h__law_draw 2) : CalK P w K mg base ρ "_law_changed" 2 [0] h__law_changed 3 :=
  cal_mk (N := ["pool", "text", "signs", "sign", "at", "way", "words", "k", "other", "kept"]) (ps := ["pool", "text"]) (k := 2) (g := b__law_changed) [0] F gm ⟨rfl, rfl, rfl, by decide +kernel, rfl, by decide +kernel, by decide +kernel⟩ (by decide) (fun _ _ _ _ _ _ us hl => match us, hl with | [_, _], _ => rfl) (fun cdv A outer s H E hr V0 => by
    exact
  (vss_strT V0.nd 2 (vsst_cons (vst_of (vs_asg V0.nd 2 (ve_op v_add (ve_var 2) ve_str)))
  (vsst_cons (vst_of (vs_asg V0.nd 3 (ve_ix (ve_var 2) (ve_call (mi := [(0, 0)]) V0 c__law_draw.c (hr.mono (by decide)) (va_M 0 (va_F (ve_ix (ve_lst (vd_cons ve_int (vd_cons (ve_cb (v_len) z.f_len b_len (va_cons (ve_var 2) va_nil)) vd_nil))) (ve_call (mi := [(0, 0)]) V0 c__law_draw.c (hr.mono (by decide)) (va_M 0 (va_F ve_int va_nil)))) va_nil))))))
  (vsst_cons (vst_of (vs_asg V0.nd 4 (ve_call (mi := [(0, 0)]) V0 c__law_draw.c (hr.mono (by decide)) (va_M 0 (va_F (ve_op v_add (ve_cb (v_len) z.f_len b_len (va_cons (ve_var 1) va_nil)) ve_int) va_nil)))))
  (vsst_cons (vst_of (vs_asg V0.nd 5 (ve_call (mi := [(0, 0)]) V0 c__law_draw.c (hr.mono (by decide)) (va_M 0 (va_F ve_int va_nil)))))
  (vsst_cons (vst_of (vs_own V0.nd 6 (ve_m1 v_split PySem.F.slot_str_split PySem.F.type_str_split (ve_var 1) ve_str)))
  (vsst_cons (vst_of (vs_asg V0.nd 7 (ve_call (mi := [(0, 0)]) V0 c__law_draw.c (hr.mono (by decide)) (va_M 0 (va_F (ve_cb (v_len) z.f_len b_len (va_cons (ve_var 6) va_nil)) va_nil)))))
  (vsst_cons (vst_of (vs_asg V0.nd 8 (ve_call (mi := [(0, 0)]) V0 c__law_draw.c (hr.mono (by decide)) (va_M 0 (va_F (ve_cb (v_len) z.f_len b_len (va_cons (ve_var 6) va_nil)) va_nil)))))
  (vsst_cons (vst_of (vs_if (vt_cmp v_lt (ve_var 5) ve_int) (vss_one (vs_retO (ve_op v_add (ve_op v_add (ve_sl (ve_var 1) vo_no (vo_some (ve_var 4))) (ve_var 3)) (ve_sl (ve_var 1) (vo_some (ve_op v_add (ve_var 4) (ve_var 5))) vo_no)))) vss_nil))
  (vsst_cons (vst_of (vs_if (vt_cmp (v_eq (by have := V0.room.un; omega)) (ve_var 5) ve_int) (vss_one (vs_retO (ve_op v_add (ve_sl (ve_var 1) vo_no (vo_some (ve_var 4))) (ve_sl (ve_var 1) (vo_some (ve_op v_add (ve_var 4) ve_int)) vo_no)))) vss_nil))
  (vsst_cons (vst_of (vs_if (vt_cmp (v_eq (by have := V0.room.un; omega)) (ve_var 5) ve_int) (vss_cons (vs_asg V0.nd 9 (ve_ix (ve_var 6) (ve_var 7)))
  (vss_cons (vs_put 6 (ve_var 7) (ve_ix (ve_var 6) (ve_var 8)))
  (vss_one (vs_put 6 (ve_var 8) (ve_var 9))))) vss_nil))
  (vsst_cons (vst_of (vs_if (vt_cmp (v_eq (by have := V0.room.un; omega)) (ve_var 5) ve_int) (vss_one (vs_expr (ve_mth v_insert 6 PySem.F.slot_list_insert PySem.F.type_list_insert (vd_cons (ve_var 7) (vd_cons (ve_ix (ve_var 6) (ve_var 8)) vd_nil))))) vss_nil))
  (vsst_cons (vst_of (vs_if (vt_cmp (v_eq (by have := V0.room.un; omega)) (ve_var 5) ve_int) (vss_one (vs_expr (ve_mth v_pop 6 PySem.F.slot_list_pop PySem.F.type_list_pop (vd_cons (ve_var 7) vd_nil)))) vss_nil))
  (vsst_cons (vst_of (vs_if (vt_cmp (v_eq (by have := V0.room.un; omega)) (ve_var 5) ve_int) (vss_one (vs_put 6 (ve_var 7) (ve_strA V0 (ve_call (mi := [(0, 0)]) V0 c__law_draw.c (hr.mono (by decide)) (va_M 0 (va_F (ve_ix (ve_lst (vd_cons ve_int (vd_cons ve_int (vd_cons (ve_op v_pow ve_int ve_int) vd_nil)))) (ve_call (mi := [(0, 0)]) V0 c__law_draw.c (hr.mono (by decide)) (va_M 0 (va_F ve_int va_nil)))) va_nil))) z.f_str))) vss_nil))
  (vsst_cons (vst_of (vs_if (vt_cmp (v_eq (by have := V0.room.un; omega)) (ve_var 5) ve_int) (vss_one (vs_put 6 (ve_var 7) (ve_op v_add ve_str (ve_ix (ve_var 6) (ve_var 7))))) vss_nil))
  (vsst_cons (vst_of (vs_if (vt_cmp (v_eq (by have := V0.room.un; omega)) (ve_var 5) ve_int) (vss_one (vs_put 6 (ve_var 7) (ve_op v_add (ve_ix (ve_var 6) (ve_var 7)) ve_str))) vss_nil))
  (vsst_cons (vst_if (vt_cmp (v_eq (by have := V0.room.un; omega)) (ve_var 5) ve_int) (vsst_one (vst_put 6 (ve_var 7) (vet_repl (ve_ix (ve_var 6) (ve_var 7))))) (vsst_of vss_nil))
  (vsst_of (vss_cons (vs_if (vt_cmp (v_eq (by have := V0.room.un; omega)) (ve_var 5) ve_int) (vss_one (vs_own V0.nd 6 (ve_op v_add (ve_var 6) (ve_lst (vd_cons (ve_ix (ve_lst (vd_cons ve_str (vd_cons ve_str (vd_cons ve_str (vd_cons ve_str (vd_cons ve_str (vd_cons ve_str vd_nil))))))) (ve_call (mi := [(0, 0)]) V0 c__law_draw.c (hr.mono (by decide)) (va_M 0 (va_F ve_int va_nil)))) vd_nil))))) vss_nil)
  (vss_cons (vs_if (vt_cmp (v_eq (by have := V0.room.un; omega)) (ve_var 5) ve_int) (vss_one (vs_retO (ve_op v_add (ve_ix (ve_lst (vd_cons ve_str (vd_cons ve_str (vd_cons ve_str (vd_cons ve_str vd_nil))))) (ve_call (mi := [(0, 0)]) V0 c__law_draw.c (hr.mono (by decide)) (va_M 0 (va_F ve_int va_nil)))) (ve_var 1)))) vss_nil)
  (vss_one (vs_retO (ve_m1 v_join PySem.F.slot_str_join PySem.F.type_str_join ve_str (ve_var 6))))))))))))))))))))))))) (by decide)
theorem ok__law_written {a : Addr} {fd : FuncData} (F : FunD K "_law_written" "_law_written" (defArgs s__law_written) (defBody s__law_written) (defScope s__law_written) [] [] a fd) (gm : mg "_law_written" = some (.ref a)) (z : Fc K mg)  : CalK P w K mg base ρ "_law_written" 1 [] h__law_written 2 :=
  cal_mk (N := ["order", "thing"]) (ps := ["order"]) (k := 1) (g := b__law_written) [] F gm ⟨rfl, rfl, rfl, by decide +kernel, rfl, by decide +kernel, by decide +kernel⟩ (by decide) (fun _ _ _ _ _ _ us hl => match us, hl with | [_], _ => rfl) (fun cdv A outer s H E hr V0 => by
    exact
  (vss_one (vs_retO (ve_m1 v_join PySem.F.slot_str_join PySem.F.type_str_join ve_str (ve_lc V0 [("thing", 1)] (t := (gName 1)) (vi_seq (ve_var 0)) (by kernel_rfl) (fun _ _ _ _ _ => pg_name V0.nd rfl (Or.inl rfl)) (sg_name (by decide)) (wg_name (by decide)) (fun s H C cl fp V0 => vc_no) (fun s H C cl fp V0 => (ve_strA V0 (ve_var 1) z.f_str))))))) (by decide)
theorem ok__law_list_written {a : Addr} {fd : FuncData} (F : FunD K "_law_list_written" "_law_list_written" (defArgs s__law_list_written) (defBody s__law_list_written) (defScope s__law_list_written) [] [] a fd) (gm : mg "_law_list_written" = some (.ref a)) (z : Fc K mg) (c__law_written : CalK P w K mg base ρ "_law_written" 1 [] h__law_written 2) : CalK P w K mg base ρ "_law_list_written" 1 [] h__law_list_written 3 :=
  cal_mk (N := ["orders", "order"]) (ps := ["orders"]) (k := 2) (g := b__law_list_written) [] F gm ⟨rfl, rfl, rfl, by decide +kernel, rfl, by decide +kernel, by decide +kernel⟩ (by decide) (fun _ _ _ _ _ _ us hl => match us, hl with | [_], _ => rfl) (fun cdv A outer s H E hr V0 => by
    exact
  (vss_one (vs_retO (ve_ifExp (vt_cmp (v_ne (by have := V0.room.un; omega)) (ve_var 0) (ve_lst vd_nil)) (ve_m1 v_join PySem.F.slot_str_join PySem.F.type_str_join ve_str (ve_lc V0 [("order", 1)] (t := (gName 1)) (vi_seq (ve_var 0)) (by kernel_rfl) (fun _ _ _ _ _ => pg_name V0.nd rfl (Or.inl rfl)) (sg_name (by decide)) (wg_name (by decide)) (fun s H C cl fp V0 => vc_no) (fun s H C cl fp V0 => (ve_callP V0 c__law_written.c (hr.mono (by decide)) (va_P (ve_var 1) va_nil))))) ve_str)))) (by decide)
theorem ok__law_odd {a : Addr} {fd : FuncData} (F : FunD K "_law_odd" "_law_odd" (defArgs s__law_odd) (defBody s__law_odd) (defScope s__law_odd) [] [] a fd) (gm : mg "_law_odd" = some (.ref a)) (z : Fc K mg) (c__law_draw : CalK P w K mg base ρ "_law_draw" 2 [0] h__law_draw 2) : CalK P w K mg base ρ "_law_odd" 1 [0] h__law_odd 3 :=
  cal_mk (N := ["pool", "some"]) (ps := ["pool"]) (k := 2) (g := b__law_odd) [0] F gm ⟨rfl, rfl, rfl, by decide +kernel, rfl, by decide +kernel, by decide +kernel⟩ (by decide) (fun _ _ _ _ _ _ us hl => match us, hl with | [_], _ => rfl) (fun cdv A outer s H E hr V0 => by
    exact
  (vss_cons (vs_asg V0.nd 1 (ve_lst (vd_cons ve_str (vd_cons ve_str (vd_cons ve_str (vd_cons ve_str (vd_cons ve_str (vd_cons ve_str (vd_cons ve_str (vd_cons ve_str (vd_cons ve_str vd_nil)))))))))))
  (vss_cons (vs_asg V0.nd 1 (ve_op v_add (ve_var 1) (ve_lst (vd_cons ve_str (vd_cons ve_str (vd_cons ve_str (vd_cons ve_str (vd_cons ve_str (vd_cons ve_str (vd_cons ve_str (vd_cons ve_str (vd_cons ve_str vd_nil))))))))))))
  (vss_cons (vs_asg V0.nd 1 (ve_op v_add (ve_var 1) (ve_lst (vd_cons ve_str (vd_cons ve_str (vd_cons ve_str (vd_cons ve_str (vd_cons ve_str (vd_cons ve_str vd_nil)))))))))
  (vss_cons (vs_asg V0.nd 1 (ve_op v_add (ve_var 1) (ve_lst (vd_cons ve_str (vd_cons ve_str (vd_cons ve_str (vd_cons ve_str (vd_cons ve_str vd_nil))))))))
  (vss_cons (vs_asg V0.nd 1 (ve_op v_add (ve_var 1) (ve_lst (vd_cons ve_str (vd_cons ve_str (vd_cons ve_str vd_nil))))))
  (vss_cons (vs_asg V0.nd 1 (ve_op v_add (ve_var 1) (ve_lst (vd_cons ve_str (vd_cons ve_str (vd_cons ve_str (vd_cons ve_str vd_nil)))))))
  (vss_one (vs_retO (ve_ix (ve_var 1) (ve_call (mi := [(0, 0)]) V0 c__law_draw.c (hr.mono (by decide)) (va_M 0 (va_F ve_int va_nil))))))))))))) (by decide)
theorem ok__law_order {a : Addr} {fd : FuncData} (F : FunD K "_law_order" "_law_order" (defArgs s__law_order) (defBody s__law_order) (defScope s__law_order) [] [] a fd) (gm : mg "_law_order" = some (.ref a)) (z : Fc K mg) (c__law_draw : CalK P w K mg base ρ "_law_draw" 2 [0] h__law_draw 2) : CalK P w K mg base ρ "_law_order" 2 [0] h__law_order 3 :=
  cal_mk (N := ["pool", "n", "left", "k"]) (ps := ["pool", "n"]) (k := 2) (g := b__law_order) [0] F gm ⟨rfl, rfl, rfl, by decide +kernel, rfl, by decide +kernel, by decide +kernel⟩ (by decide) (fun _ _ _ _ _ _ us hl => match us, hl with | [_, _], _ => rfl) (fun cdv A outer s H E hr V0 => by
    exact
  (vss_cons (vs_own V0.nd 2 (ve_listRg1 V0.calm z.f_list z.f_range (ve_var 1)))
  (vss_one (vs_retO (ve_lc V0 [("k", 3)] (t := (gName 3)) (vi_range1 z.f_range (ve_var 1)) (by kernel_rfl) (fun _ _ _ _ _ => pg_name V0.nd rfl (Or.inl rfl)) (sg_name (by decide)) (wg_name (by decide)) (fun s H C cl fp V0 => vc_no) (fun s H C cl fp V0 => (ve_mth v_pop 2 PySem.F.slot_list_pop PySem.F.type_list_pop (vd_cons (ve_call (mi := [(0, 0)]) V0 c__law_draw.c (hr.mono (by decide)) (va_M 0 (va_F (ve_cb (v_len) z.f_len b_len (va_cons (ve_var 2) va_nil)) va_nil))) vd_nil)))))))) (by decide)
theorem ok__law_pool {a : Addr} {fd : FuncData} (F : FunD K "_law_pool" "_law_pool" (defArgs s__law_pool) (defBody s__law_pool) (defScope s__law_pool) [] [] a fd) (gm : mg "_law_pool" = some (.ref a)) (z : Fc K mg)  : CalK P w K mg base ρ "_law_pool" 2 [] h__law_pool 2 :=
  cal_mk (N := ["script", "k", "cell"]) (ps := ["script", "k"]) (k := 1) (g := b__law_pool) [] F gm ⟨rfl, rfl, rfl, by decide +kernel, rfl, by decide +kernel, by decide +kernel⟩ (by decide) (fun _ _ _ _ _ _ us hl => match us, hl with | [_, _], _ => rfl) (fun cdv A outer s H E hr V0 => by
    exact
  (vss_cons (vs_asg V0.nd 2 ve_int)
  (vss_cons (vs_if (vt_cmp v_lt (ve_var 1) (ve_scLen (ve_var 0) z.f_len b_len)) (vss_one (vs_asg V0.nd 2 (ve_scIx (ve_var 0) (ve_var 1)))) vss_nil)
  (vss_one (vs_retO (ve_lst (vd_cons (ve_var 2) (vd_cons (ve_ct v_int z.f_int b_int (va_cons (ve_cmp v_ge (ve_var 2) (ve_op v_pow ve_int ve_int)) va_nil)) (vd_cons (ve_op v_mul ve_int (ve_var 1)) vd_nil))))))))) (by decide)
theorem ok__law_number {a : Addr} {fd : FuncData} (F : FunD K "_law_number" "_law_number" (defArgs s__law_number) (defBody s__law_number) (defScope s__law_number) [] [] a fd) (gm : mg "_law_number" = some (.ref a)) (z : Fc K mg)  : CalK P w K mg base ρ "_law_number" 1 [] h__law_number 2 :=
  cal_mk (N := ["word", "sign"]) (ps := ["word"]) (k := 1) (g := b__law_number) [] F gm ⟨rfl, rfl, rfl, by decide +kernel, rfl, by decide +kernel, by decide +kernel⟩ (by decide) (fun _ _ _ _ _ _ us hl => match us, hl with | [_], _ => rfl) (fun cdv A outer s H E hr V0 => by
    exact
  (vss_cons (vs_if (VW.vt (vw_or (vt_not (vt_chain v_le v_le ve_int (ve_cb (v_len) z.f_len b_len (va_cons (ve_var 0) va_nil)) ve_int)) (vw_or1 (vt_cmp (v_ne (by have := V0.room.un; omega)) (ve_lc V0 [("sign", 1)] (t := (gName 1)) (vi_text (ve_var 0)) (by kernel_rfl) (fun _ _ _ _ _ => pg_name V0.nd rfl (Or.inl rfl)) (sg_name (by decide)) (wg_name (by decide)) (fun s H C cl fp V0 => (vc_if (vt_cmp (v_notIn (by have := V0.room.un; omega)) (ve_var 1) ve_str))) (fun s H C cl fp V0 => (ve_var 1))) (ve_lst vd_nil))))) (vss_one (vs_retO ve_non)) vss_nil)
  (vss_cons (vs_if (VW.vt (vw_and (vt_cmp (v_eq (by have := V0.room.un; omega)) (ve_cb (v_len) z.f_len b_len (va_cons (ve_var 0) va_nil)) ve_int) (vw_and1 (vt_cmp (v_eq (by have := V0.room.un; omega)) (ve_ix (ve_var 0) ve_int) ve_str)))) (vss_one (vs_retO ve_non)) vss_nil)
  (vss_one (vs_retO (ve_ct v_intS z.f_int b_int (va_cons (ve_var 0) va_nil))))))) (by decide)
theorem ok__law_read {a : Addr} {fd : FuncData} (F : FunD K "_law_read" "_law_read" (defArgs s__law_read) (defBody s__law_read) (defScope s__law_read) [] [] a fd) (gm : mg "_law_read" = some (.ref a)) (z : Fc K mg) (c__law_number : CalK P w K mg base ρ "_law_number" 1 [] h__law_number 2) : CalK P w K mg base ρ "_law_read" 1 [] h__law_read 3 :=
  cal_mk (N := ["text", "found", "word"]) (ps := ["text"]) (k := 2) (g := b__law_read) [] F gm ⟨rfl, rfl, rfl, by decide +kernel, rfl, by decide +kernel, by decide +kernel⟩ (by decide) (fun _ _ _ _ _ _ us hl => match us, hl with | [_], _ => rfl) (fun cdv A outer s H E hr V0 => by
    exact
  (vss_cons (vs_asgLc V0 1 [("word", 2)] (t := (gName 2)) (vi_seq (ve_m1 v_split PySem.F.slot_str_split PySem.F.type_str_split (ve_var 0) ve_str)) (by kernel_rfl) (fun _ _ _ _ _ => pg_name V0.nd rfl (Or.inl rfl)) (sg_name (by decide)) (wg_name (by decide)) (fun s H C cl fp V0 => vc_no) (fun s H C cl fp V0 => (ve_callP V0 c__law_number.c (hr.mono (by decide)) (va_P (ve_var 2) va_nil))) (sw_true rfl rfl rfl (by decide +kernel))).2
  (vss_cons (vs_if (VW.vt (vw_or (vt_cmp (v_in (by have := V0.room.un; omega)) ve_non (ve_var 1)) (vw_or (vt_cmp (v_ne (by have := V0.room.un; omega)) (ve_cb (v_sorted) z.f_sorted b_sorted (va_cons (ve_var 1) va_nil)) (ve_listRg1 V0.calm z.f_list z.f_range (ve_cb (v_len) z.f_len b_len (va_cons (ve_var 1) va_nil)))) (vw_or1 (vt_cmp v_gt (ve_cb (v_len) z.f_len b_len (va_cons (ve_var 1) va_nil)) ve_int))))) (vss_one (vs_retO ve_non)) vss_nil)
  (vss_one (vs_retO (ve_var 1)))))) (by decide)
theorem ok__law_read_list {a : Addr} {fd : FuncData} (F : FunD K "_law_read_list" "_law_read_list" (defArgs s__law_read_list) (defBody s__law_read_list) (defScope s__law_read_list) [] [] a fd) (gm : mg "_law_read_list" = some (.ref a)) (z : Fc K mg) (c__law_read : CalK P w K mg base ρ "_law_read" 1 [] h__law_read 3) : CalK P w K mg base ρ "_law_read_list" 1 [] h__law_read_list 4 :=
  cal_mk (N := ["text", "found", "part", "order"]) (ps := ["text"]) (k := 3) (g := b__law_read_list) [] F gm ⟨rfl, rfl, rfl, by decide +kernel, rfl, by decide +kernel, by decide +kernel⟩ (by decide) (fun _ _ _ _ _ _ us hl => match us, hl with | [_], _ => rfl) (fun cdv A outer s H E hr V0 => by
    exact
  (vss_cons (vs_if (vt_cmp (v_eq (by have := V0.room.un; omega)) (ve_var 0) ve_str) (vss_one (vs_retO (ve_lst vd_nil))) vss_nil)
  (vss_cons (vs_own V0.nd 1 (ve_lc V0 [("part", 2)] (t := (gName 2)) (vi_seq (ve_m1 v_split PySem.F.slot_str_split PySem.F.type_str_split (ve_var 0) ve_str)) (by kernel_rfl) (fun _ _ _ _ _ => pg_name V0.nd rfl (Or.inl rfl)) (sg_name (by decide)) (wg_name (by decide)) (fun s H C cl fp V0 => vc_no) (fun s H C cl fp V0 => (ve_call (mi := []) V0 c__law_read.c (hr.mono (by decide)) (va_F (ve_var 2) va_nil)))))
  (vss_cons (vs_if (VW.vt (vw_or (vt_cmp (v_in (by have := V0.room.un; omega)) ve_non (ve_var 1)) (vw_or1 (vt_cmp (v_ne (by have := V0.room.un; omega)) (ve_lc V0 [("order", 3)] (t := (gName 3)) (vi_seq (ve_var 1)) (by kernel_rfl) (fun _ _ _ _ _ => pg_name V0.nd rfl (Or.inl rfl)) (sg_name (by decide)) (wg_name (by decide)) (fun s H C cl fp V0 => (vc_if (vt_cmp (v_ne (by have := V0.room.un; omega)) (ve_cb (v_len) z.f_len b_len (va_cons (ve_var 3) va_nil)) (ve_cb (v_len) z.f_len b_len (va_cons (ve_ix (ve_var 1) ve_int) va_nil))))) (fun s H C cl fp V0 => (ve_var 3))) (ve_lst vd_nil))))) (vss_one (vs_retO ve_non)) vss_nil)
  (vss_one (vs_retO (ve_var 1))))))) (by decide)
theorem ok__law_texts_right {a : Addr} {fd : FuncData} (F : FunD K "_law_texts_right" "_law_texts_right" (defArgs s__law_texts_right) (defBody s__law_texts_right) (defScope s__law_texts_right) [] [] a fd) (gm : mg "_law_texts_right" = some (.ref a)) (z : Fc K mg) (c__law_asked : CalK P w K mg base ρ "_law_asked" 2 [] h__law_asked 6) (c__law_read : CalK P w K mg base ρ "_law_read" 1 [] h__law_read 3) (c__law_read_list : CalK P w K mg base ρ "_law_read_list" 1 [] h__law_read_list 4) : CalK P w K mg base ρ "_law_texts_right" 1 [] h__law_texts_right 7 :=
  cal_mk (N := ["text", "due"]) (ps := ["text"]) (k := 6) (g := b__law_texts_right) [] F gm ⟨rfl, rfl, rfl, by decide +kernel, rfl, by decide +kernel, by decide +kernel⟩ (by decide) (fun _ _ _ _ _ _ us hl => match us, hl with | [_], _ => rfl) (fun cdv A outer s H E hr V0 => by
    exact
  (vss_cons (vs_asg V0.nd 1 (ve_call (mi := []) V0 c__law_read.c (hr.mono (by decide)) (va_F (ve_var 0) va_nil)))
  (vss_cons (vs_if (vt_cmp (v_ne (by have := V0.room.un; omega)) (ve_call (mi := []) V0 c__law_asked.c (hr.mono (by decide)) (va_F ve_str (va_F (ve_var 0) va_nil))) (ve_tup (vd_cons (ve_ix (ve_lst (vd_cons ve_str (vd_cons ve_str vd_nil))) (ve_ct v_int z.f_int b_int (va_cons (ve_cmp v_is (ve_var 1) ve_non) va_nil))) (vd_cons (ve_var 1) vd_nil)))) (vss_one (vs_retO ve_bl)) vss_nil)
  (vss_cons (vs_asg V0.nd 1 (ve_call (mi := []) V0 c__law_read_list.c (hr.mono (by decide)) (va_F (ve_var 0) va_nil)))
  (vss_one (vs_retO (ve_cmp (v_eq (by have := V0.room.un; omega)) (ve_call (mi := []) V0 c__law_asked.c (hr.mono (by decide)) (va_F ve_str (va_F (ve_var 0) va_nil))) (ve_tup (vd_cons (ve_ix (ve_lst (vd_cons ve_str (vd_cons ve_str vd_nil))) (ve_ct v_int z.f_int b_int (va_cons (ve_cmp v_is (ve_var 1) ve_non) va_nil))) (vd_cons (ve_var 1) vd_nil)))))))))) (by decide)
theorem ok_law {a : Addr} {fd : FuncData} (F : FunD K "law" "law" (defArgs s_law) (defBody s_law) (defScope s_law) [] [] a fd) (z : Fc K mg) (c__law_asked : CalK P w K mg base ρ "_law_asked" 2 [] h__law_asked 6) (c__law_changed : CalK P w K mg base ρ "_law_changed" 2 [0] h__law_changed 3) (c__law_draw : CalK P w K mg base ρ "_law_draw" 2 [0] h__law_draw 2) (c__law_list_written : CalK P w K mg base ρ "_law_list_written" 1 [] h__law_list_written 3) (c__law_odd : CalK P w K mg base ρ "_law_odd" 1 [0] h__law_odd 3) (c__law_order : CalK P w K mg base ρ "_law_order" 2 [0] h__law_order 3) (c__law_pool : CalK P w K mg base ρ "_law_pool" 2 [] h__law_pool 2) (c__law_texts_right : CalK P w K mg base ρ "_law_texts_right" 1 [] h__law_texts_right 7) (c__law_written : CalK P w K mg base ρ "_law_written" 1 [] h__law_written 2) : FnG P w K mg base 8 a fd ["script"] (spV ⟨K, mg, ρ⟩ 1 [] h_law) :=
  fn_mkV (N := ["script", "k", "pool", "n", "most", "orders", "text", "turn", "other", "things", "thing"]) (ps := ["script"]) (k := 7) (g := b_law) [] F ⟨rfl, rfl, rfl, by decide +kernel, rfl, by decide +kernel, by decide +kernel⟩ (by decide) (fun cdv A outer s H E hr V0 => by
    exact
  (vss_cons (vs_for V0 [1, 2, 3, 4, 5, 6, 7, 8, 9, 10] (vi_range1 z.f_range (ve_cb (v_max V0.calm) z.f_max b_max (va_cons ve_int (va_cons (ve_cb (v_min V0.calm) z.f_min b_min (va_cons ve_int (va_cons (ve_scLen (ve_var 0) z.f_len b_len) va_nil))) va_nil)))) (vg_name V0.nd 1) (vss_cons (vs_own V0.nd 2 (ve_call (mi := []) V0 c__law_pool.c (hr.mono (by decide)) (va_F (ve_var 0) (va_F (ve_var 1) va_nil))))
  (vss_cons (vs_asg V0.nd 3 (ve_op v_add ve_int (ve_call (mi := [(0, 2)]) V0 c__law_draw.c (hr.mono (by decide)) (va_M 2 (va_F ve_int va_nil)))))
  (vss_cons (vs_asg V0.nd 4 (ve_ix (ve_lst (vd_cons ve_int (vd_cons (ve_cb (v_min V0.calm) z.f_min b_min (va_cons ve_int (va_cons (ve_op v_fdiv ve_int (ve_op v_add (ve_op v_mul ve_int (ve_var 3)) ve_int)) va_nil))) vd_nil))) (ve_ct v_int z.f_int b_int (va_cons (ve_cmp (v_eq (by have := V0.room.un; omega)) (ve_var 1) ve_int) va_nil))))
  (vss_cons (vs_asgLc V0 5 [("turn", 7)] (t := (gName 7)) (vi_range1 z.f_range (ve_op v_add ve_int (ve_call (mi := [(0, 2)]) V0 c__law_draw.c (hr.mono (by decide)) (va_M 2 (va_F (ve_var 4) va_nil))))) (by kernel_rfl) (fun _ _ _ _ _ => pg_name V0.nd rfl (Or.inl rfl)) (sg_name (by decide)) (wg_name (by decide)) (fun s H C cl fp V0 => vc_no) (fun s H C cl fp V0 => (ve_call (mi := [(0, 2)]) V0 c__law_order.c (hr.mono (by decide)) (va_M 2 (va_F (ve_var 3) va_nil)))) (sw_true rfl rfl rfl (by decide +kernel))).2
  (vss_cons (vs_if (vt_cmp (v_eq (by have := V0.room.un; omega)) (ve_call (mi := [(0, 2)]) V0 c__law_draw.c (hr.mono (by decide)) (va_M 2 (va_F ve_int va_nil))) ve_int) (vss_one (vs_put 5 (ve_ix (ve_lst (vd_cons (ve_call (mi := [(0, 2)]) V0 c__law_draw.c (hr.mono (by decide)) (va_M 2 (va_F (ve_cb (v_len) z.f_len b_len (va_cons (ve_var 5) va_nil)) va_nil))) (vd_cons (ve_un v_neg ve_int) vd_nil))) (ve_call (mi := [(0, 2)]) V0 c__law_draw.c (hr.mono (by decide)) (va_M 2 (va_F ve_int va_nil)))) (ve_call (mi := [(0, 2)]) V0 c__law_order.c (hr.mono (by decide)) (va_M 2 (va_F (ve_op v_add ve_int (ve_call (mi := [(0, 2)]) V0 c__law_draw.c (hr.mono (by decide)) (va_M 2 (va_F ve_int va_nil)))) va_nil))))) vss_nil)
  (vss_cons (vs_for V0 [6, 7, 8] (vi_seq (ve_lst (vd_cons (ve_callP V0 c__law_written.c (hr.mono (by decide)) (va_P (ve_ix (ve_var 5) ve_int) va_nil)) (vd_cons (ve_callP V0 c__law_list_written.c (hr.mono (by decide)) (va_P (ve_var 5) va_nil)) vd_nil)))) (vg_name V0.nd 6) (vss_cons (vs_if (vt_not (vt_of (fun _ => rfl) (ve_callP V0 c__law_texts_right.c (hr.mono (by decide)) (va_P (ve_var 6) va_nil)))) (vss_one (vs_retO ve_bl)) vss_nil)
  (vss_one (vs_for V0 [7, 8] (vi_range1 z.f_range ve_int) (vg_name V0.nd 7) (vss_cons (vs_asg V0.nd 8 (ve_call (mi := [(0, 2)]) V0 c__law_changed.c (hr.mono (by decide)) (va_M 2 (va_F (ve_var 6) va_nil))))
  (vss_cons (vs_if (vt_cmp (v_eq (by have := V0.room.un; omega)) (ve_call (mi := [(0, 2)]) V0 c__law_draw.c (hr.mono (by decide)) (va_M 2 (va_F ve_int va_nil))) ve_int) (vss_one (vs_asg V0.nd 8 (ve_call (mi := [(0, 2)]) V0 c__law_changed.c (hr.mono (by decide)) (va_M 2 (va_F (ve_var 8) va_nil))))) vss_nil)
  (vss_one (vs_if (vt_not (vt_of (fun _ => rfl) (ve_callP V0 c__law_texts_right.c (hr.mono (by decide)) (va_P (ve_sl (ve_var 8) vo_no (vo_some ve_int)) va_nil)))) (vss_one (vs_retO ve_bl)) vss_nil))))))))
  (vss_cons (vs_if (vt_not (vt_of (fun _ => rfl) (ve_callP V0 c__law_texts_right.c (hr.mono (by decide)) (va_P (ve_call (mi := [(0, 2)]) V0 c__law_odd.c (hr.mono (by decide)) (va_M 2 va_nil)) va_nil)))) (vss_one (vs_retO ve_bl)) vss_nil)
  (vss_cons (vs_asg V0.nd 9 (ve_lst (vd_cons ve_non (vd_cons ve_int (vd_cons ve_int (vd_cons ve_bl (vd_cons (ve_lst (vd_cons ve_int vd_nil)) (vd_cons (ve_lst (vd_cons ve_str vd_nil)) (vd_cons (ve_tup (vd_cons ve_int (vd_cons ve_int vd_nil))) (vd_cons ve_dnew (vd_cons (ve_lst (vd_cons (ve_lst (vd_cons ve_int vd_nil)) vd_nil)) (vd_cons (ve_var 5) (vd_cons (ve_ix (ve_var 5) ve_int) (vd_cons (ve_tup vd_nil) vd_nil))))))))))))))
  (vss_cons (vs_asg V0.nd 10 (ve_ix (ve_var 9) (ve_call (mi := [(0, 2)]) V0 c__law_draw.c (hr.mono (by decide)) (va_M 2 (va_F ve_int va_nil)))))
  (vss_one (vs_if (VW.vt (vw_or (vt_cmp (v_ne (by have := V0.room.un; omega)) (ve_call (mi := []) V0 c__law_asked.c (hr.mono (by decide)) (va_F ve_str (va_F (ve_var 10) va_nil))) (ve_tup (vd_cons ve_str (vd_cons ve_non vd_nil)))) (vw_or1 (vt_cmp (v_ne (by have := V0.room.un; omega)) (ve_call (mi := []) V0 c__law_asked.c (hr.mono (by decide)) (va_F ve_str (va_F (ve_var 10) va_nil))) (ve_tup (vd_cons ve_str (vd_cons ve_non vd_nil))))))) (vss_one (vs_retO ve_bl)) vss_nil))))))))))))
  (vss_one (vs_retO ve_bl)))) (by decide)
end
def d_is_number : He.DefD := ⟨("is_number", none), "is_number", "is_number", defArgs s_is_number, defBody s_is_number, defScope s_is_number, [], []⟩
def d_is_whole : He.DefD := ⟨("is_whole", none), "is_whole", "is_whole", defArgs s_is_whole, defBody s_is_whole, defScope s_is_whole, [], []⟩
def d_is_order : He.DefD := ⟨("is_order", none), "is_order", "is_order", defArgs s_is_order, defBody s_is_order, defScope s_is_order, [], []⟩
def d_read_order : He.DefD := ⟨("read_order", none), "read_order", "read_order", defArgs s_read_order, defBody s_read_order, defScope s_read_order, [], []⟩
def d_is_orders : He.DefD := ⟨("is_orders", none), "is_orders", "is_orders", defArgs s_is_orders, defBody s_is_orders, defScope s_is_orders, [], []⟩
def d_read_orders : He.DefD := ⟨("read_orders", none), "read_orders", "read_orders", defArgs s_read_orders, defBody s_read_orders, defScope s_read_orders, [], []⟩
def d_show_order : He.DefD := ⟨("show_order", none), "show_order", "show_order", defArgs s_show_order, defBody s_show_order, defScope s_show_order, [], []⟩
def d_show_orders : He.DefD := ⟨("show_orders", none), "show_orders", "show_orders", defArgs s_show_orders, defBody s_show_orders, defScope s_show_orders, [], []⟩
def d__law_asked : He.DefD := ⟨("_law_asked", none), "_law_asked", "_law_asked", defArgs s__law_asked, defBody s__law_asked, defScope s__law_asked, [], []⟩
def d__law_draw : He.DefD := ⟨("_law_draw", none), "_law_draw", "_law_draw", defArgs s__law_draw, defBody s__law_draw, defScope s__law_draw, [], []⟩
def d__law_changed : He.DefD := ⟨("_law_changed", none), "_law_changed", "_law_changed", defArgs s__law_changed, defBody s__law_changed, defScope s__law_changed, [], []⟩
def d__law_written : He.DefD := ⟨("_law_written", none), "_law_written", "_law_written", defArgs s__law_written, defBody s__law_written, defScope s__law_written, [], []⟩
def d__law_list_written : He.DefD := ⟨("_law_list_written", none), "_law_list_written", "_law_list_written", defArgs s__law_list_written, defBody s__law_list_written, defScope s__law_list_written, [], []⟩
def d__law_odd : He.DefD := ⟨("_law_odd", none), "_law_odd", "_law_odd", defArgs s__law_odd, defBody s__law_odd, defScope s__law_odd, [], []⟩
def d__law_order : He.DefD := ⟨("_law_order", none), "_law_order", "_law_order", defArgs s__law_order, defBody s__law_order, defScope s__law_order, [], []⟩
def d__law_pool : He.DefD := ⟨("_law_pool", none), "_law_pool", "_law_pool", defArgs s__law_pool, defBody s__law_pool, defScope s__law_pool, [], []⟩
def d__law_number : He.DefD := ⟨("_law_number", none), "_law_number", "_law_number", defArgs s__law_number, defBody s__law_number, defScope s__law_number, [], []⟩
def d__law_read : He.DefD := ⟨("_law_read", none), "_law_read", "_law_read", defArgs s__law_read, defBody s__law_read, defScope s__law_read, [], []⟩
def d__law_read_list : He.DefD := ⟨("_law_read_list", none), "_law_read_list", "_law_read_list", defArgs s__law_read_list, defBody s__law_read_list, defScope s__law_read_list, [], []⟩
def d__law_texts_right : He.DefD := ⟨("_law_texts_right", none), "_law_texts_right", "_law_texts_right", defArgs s__law_texts_right, defBody s__law_texts_right, defScope s__law_texts_right, [], []⟩
def d_law : He.DefD := ⟨("law", none), "law", "law", defArgs s_law, defBody s_law, defScope s_law, [], []⟩
def fn : List He.DefD := [d_is_number, d_is_whole, d_is_order, d_read_order, d_is_orders, d_read_orders, d_show_order, d_show_orders, d__law_asked, d__law_draw, d__law_changed, d__law_written, d__law_list_written, d__law_odd, d__law_order, d__law_pool, d__law_number, d__law_read, d__law_read_list, d__law_texts_right, d_law]
def fa0 : List He.Fa := [.glo "is_number", .glo "is_whole", .glo "is_order", .glo "read_order", .glo "is_orders", .glo "read_orders", .glo "show_order", .glo "show_orders", .glo "_law_asked", .glo "_law_draw", .glo "_law_changed", .glo "_law_written", .glo "_law_list_written", .glo "_law_odd", .glo "_law_order", .glo "_law_pool", .glo "_law_number", .glo "_law_read", .glo "_law_read_list", .glo "_law_texts_right", .glo "law", .exc "NoText", .glo "NoText", .free "ValueError", .free "bool", .free "int", .free "isinstance", .free "len", .free "list", .free "max"]
def fa1 : List He.Fa := [.free "min", .free "range", .free "sorted", .free "str", .int "MOST_THINGS" 12, .str "FIGURES" "0123456789", .glo "NoOrder", .glo "NoFit", .glo "NoName", .glo "NoNumber", .glo "NoPlace", .glo "NoRow", .glo "NoWay", .glo "OrderError", .glo "TooMany"]
def fa : List He.Fa := fa0 ++ fa1
def exf (K : PySem.W.Frag) : Bool := (exB ["NoOrder", "NoText"] ["NoFit", "NoName", "NoNumber", "NoOrder", "NoPlace", "NoRow", "NoText", "NoWay", "OrderError", "TooMany"] K)
abbrev nm : List Str := (["OrderError", "NoOrder", "NoWay", "NoFit", "NoPlace", "NoNumber", "TooMany", "NoText", "NoName", "NoRow", "MOST_THINGS", "is_whole", "is_order", "FIGURES", "is_orders", "words_of", "show_order", "show_orders", "is_number", "read_order", "read_orders", "_law_pool", "_law_draw", "_law_order", "_law_near", "_law_written", "_law_list_written", "_law_asked", "_law_number", "_law_read"] : List Str) ++ (["_law_read_list", "_law_changed", "_law_odd", "_law_texts_right"] : List Str)
abbrev RW_ : PySem.W.OpenRow := PySem.W.OpenLaw.row PySem.Challenge.rw_farorders_k78_texts_of_no_orders
abbrev hk : PySem.W.Hook := He.hookX 4 fa fn [] [] exf
def obW (s : PySem.W.SharedT) : He.AlX := He.obsX 4 fa fn [] [] exf (HandSHeadRun.getT s)
theorem ob_eq (s : PySem.W.SharedT) : obW s = hk.obs s.abs := He.obsX_eq (HandSHeadRun.getT_eq s)
theorem run (w : World) : HandSHeadRun.RunEq RW_ (PySem.W.view RW_.prog [38]) hk obW 4000 nm w := by
  intro os
  kernel_rfl
theorem facts {P : Program} {w : World} {K : PySem.W.Frag} {h : Heap} {mg : Str → Option Value} {f : Addr} (X : K.In h) (G : h.Ns mainGlobals mg) (hfa : mg ("law" : Str) = some (.ref f)) (c : He.SaysD fa fn K) (cx : exf K = true) :
    ∃ fd : FuncData, (∀ (s : Shared) (v : Value), BindsTo s fd ⟨[v], []⟩ [("script", v)]) ∧ ∀ base : Heap, K.In base → base.Ns mainGlobals mg → FnG P w K mg base 8 f fd ["script"] (spV ⟨K, mg, (fun _ => R0)⟩ 1 [] h_law) := by
  obtain ⟨fd_is_number, F_is_number⟩ := c.def_ 0 (d := d_is_number) rfl
  have g_is_number := He.glo_ok X G (c.fact 0 (f := .glo "is_number") rfl)
  obtain ⟨fd_is_whole, F_is_whole⟩ := c.def_ 1 (d := d_is_whole) rfl
  have g_is_whole := He.glo_ok X G (c.fact 1 (f := .glo "is_whole") rfl)
  obtain ⟨fd_is_order, F_is_order⟩ := c.def_ 2 (d := d_is_order) rfl
  have g_is_order := He.glo_ok X G (c.fact 2 (f := .glo "is_order") rfl)
  obtain ⟨fd_read_order, F_read_order⟩ := c.def_ 3 (d := d_read_order) rfl
  have g_read_order := He.glo_ok X G (c.fact 3 (f := .glo "read_order") rfl)
  obtain ⟨fd_is_orders, F_is_orders⟩ := c.def_ 4 (d := d_is_orders) rfl
  have g_is_orders := He.glo_ok X G (c.fact 4 (f := .glo "is_orders") rfl)
  obtain ⟨fd_read_orders, F_read_orders⟩ := c.def_ 5 (d := d_read_orders) rfl
  have g_read_orders := He.glo_ok X G (c.fact 5 (f := .glo "read_orders") rfl)
  obtain ⟨fd_show_order, F_show_order⟩ := c.def_ 6 (d := d_show_order) rfl
  have g_show_order := He.glo_ok X G (c.fact 6 (f := .glo "show_order") rfl)
  obtain ⟨fd_show_orders, F_show_orders⟩ := c.def_ 7 (d := d_show_orders) rfl
  have g_show_orders := He.glo_ok X G (c.fact 7 (f := .glo "show_orders") rfl)
  obtain ⟨fd__law_asked, F__law_asked⟩ := c.def_ 8 (d := d__law_asked) rfl
  have g__law_asked := He.glo_ok X G (c.fact 8 (f := .glo "_law_asked") rfl)
  obtain ⟨fd__law_draw, F__law_draw⟩ := c.def_ 9 (d := d__law_draw) rfl
  have g__law_draw := He.glo_ok X G (c.fact 9 (f := .glo "_law_draw") rfl)
  obtain ⟨fd__law_changed, F__law_changed⟩ := c.def_ 10 (d := d__law_changed) rfl
  have g__law_changed := He.glo_ok X G (c.fact 10 (f := .glo "_law_changed") rfl)
  obtain ⟨fd__law_written, F__law_written⟩ := c.def_ 11 (d := d__law_written) rfl
  have g__law_written := He.glo_ok X G (c.fact 11 (f := .glo "_law_written") rfl)
  obtain ⟨fd__law_list_written, F__law_list_written⟩ := c.def_ 12 (d := d__law_list_written) rfl
  have g__law_list_written := He.glo_ok X G (c.fact 12 (f := .glo "_law_list_written") rfl)
  obtain ⟨fd__law_odd, F__law_odd⟩ := c.def_ 13 (d := d__law_odd) rfl
  have g__law_odd := He.glo_ok X G (c.fact 13 (f := .glo "_law_odd") rfl)
  obtain ⟨fd__law_order, F__law_order⟩ := c.def_ 14 (d := d__law_order) rfl
  have g__law_order := He.glo_ok X G (c.fact 14 (f := .glo "_law_order") rfl)
  obtain ⟨fd__law_pool, F__law_pool⟩ := c.def_ 15 (d := d__law_pool) rfl
  have g__law_pool := He.glo_ok X G (c.fact 15 (f := .glo "_law_pool") rfl)
  obtain ⟨fd__law_number, F__law_number⟩ := c.def_ 16 (d := d__law_number) rfl
  have g__law_number := He.glo_ok X G (c.fact 16 (f := .glo "_law_number") rfl)
  obtain ⟨fd__law_read, F__law_read⟩ := c.def_ 17 (d := d__law_read) rfl
  have g__law_read := He.glo_ok X G (c.fact 17 (f := .glo "_law_read") rfl)
  obtain ⟨fd__law_read_list, F__law_read_list⟩ := c.def_ 18 (d := d__law_read_list) rfl
  have g__law_read_list := He.glo_ok X G (c.fact 18 (f := .glo "_law_read_list") rfl)
  obtain ⟨fd__law_texts_right, F__law_texts_right⟩ := c.def_ 19 (d := d__law_texts_right) rfl
  have g__law_texts_right := He.glo_ok X G (c.fact 19 (f := .glo "_law_texts_right") rfl)
  obtain ⟨fd_law, F_law⟩ := c.def_ 20 (d := d_law) rfl
  have g_law := He.glo_ok X G (c.fact 20 (f := .glo "law") rfl)
  have cx' : ((exB ["NoOrder", "NoText"] ["NoFit", "NoName", "NoNumber", "NoOrder", "NoPlace", "NoRow", "NoText", "NoWay", "OrderError", "TooMany"] K)) = true := cx
  have z : Fc K mg := {
    ex := ⟨cx', ⟨He.glo_ok X G (c.fact 36 (f := .glo "NoOrder") rfl), He.glo_ok X G (c.fact 22 (f := .glo "NoText") rfl), trivial⟩, ⟨He.glo_ok X G (c.fact 37 (f := .glo "NoFit") rfl), He.glo_ok X G (c.fact 38 (f := .glo "NoName") rfl), He.glo_ok X G (c.fact 39 (f := .glo "NoNumber") rfl), He.glo_ok X G (c.fact 36 (f := .glo "NoOrder") rfl), He.glo_ok X G (c.fact 40 (f := .glo "NoPlace") rfl), He.glo_ok X G (c.fact 41 (f := .glo "NoRow") rfl), He.glo_ok X G (c.fact 22 (f := .glo "NoText") rfl), He.glo_ok X G (c.fact 42 (f := .glo "NoWay") rfl), He.glo_ok X G (c.fact 43 (f := .glo "OrderError") rfl), He.glo_ok X G (c.fact 44 (f := .glo "TooMany") rfl), trivial⟩, He.glo_ok X G (c.fact 43 (f := .glo "OrderError") rfl), He.free_ok X G (c.fact 23 (f := .free "ValueError") rfl)⟩
    x_NoText := xc_ok X G (c.fact 21 (f := .exc "NoText") rfl) (c.fact 22 (f := .glo "NoText") rfl)
    f_ValueError := He.free_ok X G (c.fact 23 (f := .free "ValueError") rfl)
    f_bool := He.free_ok X G (c.fact 24 (f := .free "bool") rfl)
    f_int := He.free_ok X G (c.fact 25 (f := .free "int") rfl)
    f_isinstance := He.free_ok X G (c.fact 26 (f := .free "isinstance") rfl)
    f_len := He.free_ok X G (c.fact 27 (f := .free "len") rfl)
    f_list := He.free_ok X G (c.fact 28 (f := .free "list") rfl)
    f_max := He.free_ok X G (c.fact 29 (f := .free "max") rfl)
    f_min := He.free_ok X G (c.fact 30 (f := .free "min") rfl)
    f_range := He.free_ok X G (c.fact 31 (f := .free "range") rfl)
    f_sorted := He.free_ok X G (c.fact 32 (f := .free "sorted") rfl)
    f_str := He.free_ok X G (c.fact 33 (f := .free "str") rfl)
    i_MOST_THINGS := He.int_ok X G (c.fact 34 (f := .int "MOST_THINGS" 12) rfl)
    s_FIGURES := He.str_ok X G (c.fact 35 (f := .str "FIGURES" "0123456789") rfl)
  }
  have e := hfa.symm.trans g_law
  cases e
  have b := FunD.bindsA (ps := ["script"]) F_law fun _ _ _ _ _ _ us hl => match us, hl with | [_], _ => rfl
  refine ⟨fd_law, fun s v => b s [v] rfl, fun base _ _ => ?_⟩
  have c_is_number := ok_is_number (P := P) (w := w) (base := base) (ρ := (fun _ => R0)) F_is_number g_is_number z 
  have c_is_whole := ok_is_whole (P := P) (w := w) (base := base) (ρ := (fun _ => R0)) F_is_whole g_is_whole z 
  have c_is_order := ok_is_order (P := P) (w := w) (base := base) (ρ := (fun _ => R0)) F_is_order g_is_order z c_is_whole
  have c_read_order := ok_read_order (P := P) (w := w) (base := base) (ρ := (fun _ => R0)) F_read_order g_read_order z c_is_number c_is_order
  have c_is_orders := ok_is_orders (P := P) (w := w) (base := base) (ρ := (fun _ => R0)) F_is_orders g_is_orders z c_is_order
  have c_read_orders := ok_read_orders (P := P) (w := w) (base := base) (ρ := (fun _ => R0)) F_read_orders g_read_orders z c_is_orders c_read_order
  have c_show_order := ok_show_order (P := P) (w := w) (base := base) (ρ := (fun _ => R0)) F_show_order g_show_order z 
  have c_show_orders := ok_show_orders (P := P) (w := w) (base := base) (ρ := (fun _ => R0)) F_show_orders g_show_orders z 
  have c__law_asked := ok__law_asked (P := P) (w := w) (base := base) (ρ := (fun _ => R0)) F__law_asked g__law_asked z c_read_order c_read_orders c_show_order c_show_orders
  have c__law_draw := ok__law_draw (P := P) (w := w) (base := base) (ρ := (fun _ => R0)) F__law_draw g__law_draw z 
  have c__law_changed := ok__law_changed (P := P) (w := w) (base := base) (ρ := (fun _ => R0)) F__law_changed g__law_changed z c__law_draw
  have c__law_written := ok__law_written (P := P) (w := w) (base := base) (ρ := (fun _ => R0)) F__law_written g__law_written z 
  have c__law_list_written := ok__law_list_written (P := P) (w := w) (base := base) (ρ := (fun _ => R0)) F__law_list_written g__law_list_written z c__law_written
  have c__law_odd := ok__law_odd (P := P) (w := w) (base := base) (ρ := (fun _ => R0)) F__law_odd g__law_odd z c__law_draw
  have c__law_order := ok__law_order (P := P) (w := w) (base := base) (ρ := (fun _ => R0)) F__law_order g__law_order z c__law_draw
  have c__law_pool := ok__law_pool (P := P) (w := w) (base := base) (ρ := (fun _ => R0)) F__law_pool g__law_pool z 
  have c__law_number := ok__law_number (P := P) (w := w) (base := base) (ρ := (fun _ => R0)) F__law_number g__law_number z 
  have c__law_read := ok__law_read (P := P) (w := w) (base := base) (ρ := (fun _ => R0)) F__law_read g__law_read z c__law_number
  have c__law_read_list := ok__law_read_list (P := P) (w := w) (base := base) (ρ := (fun _ => R0)) F__law_read_list g__law_read_list z c__law_read
  have c__law_texts_right := ok__law_texts_right (P := P) (w := w) (base := base) (ρ := (fun _ => R0)) F__law_texts_right g__law_texts_right z c__law_asked c__law_read c__law_read_list
  exact ok_law F_law z c__law_asked c__law_changed c__law_draw c__law_list_written c__law_odd c__law_order c__law_pool c__law_texts_right c__law_written
end K78
set_option maxRecDepth 100000
set_option maxHeartbeats 0
namespace K78
open PySem VL VP TM PySem.W.Datum PySem.SeqAt
open PySem.W (Datum Tup T3)
open L2 (atI ixN)
def m_is_number (word : Str) : R Bool :=
  R.bind (ob (lenS word) fun v13 =>
  if (!((decide ((1 : Int) ≤ v13)) && (decide (v13 ≤ (2 : Int))))) = true then
  (.ok true)
  else
  (R.bind (lcM (fun (x14 : Str) => R.calm (ob (notInS x14 (("0123456789" : Str))) fun v15 =>
  if v15 = true then
  (.ok (some x14))
  else
  (.ok none))) ((signs word)) []) fun ys16 =>
  ob (neG ys16 (([] : (List Str)))) fun v17 =>
  .ok v17)) fun b12 =>
  if b12 = true then
  (.ok false)
  else
  (ob (lenS word) fun v19 =>
  if (decide (v19 = (1 : Int))) = true then (.ok true) else
  (ob (ixS word ((0 : Int))) fun v20 =>
  ob (neG v20 (("0" : Str))) fun v21 =>
  .ok v21))
theorem sim_is_number (word : Str) : FnS h_is_number [.fr (toD (word : Str))] (m_is_number word) (fun a : Bool => .d (toD (a : Bool))) (fun a : Bool => []) :=
  fn_mk (n := 1) (rv := fun a : Bool => .d (toD (a : Bool))) (ss := [(.d (toD (word : Str)))]) (Γe := fun a : Bool => [none, none]) rfl (.cons rfl All2.nil) rfl
  (j_if (j_sub (bv := fun b12 : Bool => b12) (Γ1 := fun b12 : Bool => [some (.d (toD (word : Str))), none]) (j_orC (j_not (j_test (j_chain (j_c (j_cb (j_acons (j_var rfl (j_anil (j_cbopR (ra_cons (rd_d rfl) ra_nil) x_lenS fun v13 => (j_chain3 rd_b rd_b x_le (j_c (j_ko (l := [1, 0]) rd_b rfl rfl)) x_le (j_bool rd_b (j_ite (j_kb (l := [1, 0]) rfl rfl) (j_test (j_bin (j_lc (j_iText (j_var rfl (j_it (fz_d rfl) (selS_signs _) (j_lcM (Γs := [some (.d (toD (word : Str))), none]) (l := [1, 0]) (D := toD) (E := toD) (xr := fun a => toD a) rfl rfl (fun x14 => (j_gN (j_test (j_bin (j_var rfl (j_c (j_opR (rd_d rfl) rd_b x_notInS fun v15 => (j_bool rd_b (j_ite (j_var rfl (j_kf (l := [1, 0]) (fz_d rfl) rfl rfl)) (j_skip (l := [1, 0]) rfl rfl)))))))))) (fun _ => rfl) fun ys16 => (j_lst (j_dnil (j_lst2 (toD (([] : (List Str)) : (List Str))) rfl rfl (j_opR rd_w rd_w (x_neG (τ := (List Str))) fun v17 => (j_bool rd_b (j_kb (l := [1, 0]) rfl rfl)))))))))))))))))))))))))) fun b12 => (j_ite (j_ret (j_c (j_retb (l := [0, 0]) sl_d rfl rfl))) (j_seqNil (j_last (j_ret (j_orVC (j_bin (j_cb (j_acons (j_var rfl (j_anil (j_cbopR (ra_cons (rd_d rfl) ra_nil) x_lenS fun v19 => (j_c (j_op rd_b rd_b (x_eq (τ := Int)) (j_orV2 rd_b (j_bin (j_bin (j_var rfl (j_c (j_opR (rd_d rfl) rd_b x_ixS fun v20 => (j_c (j_opR rd_b rd_b (x_neG (τ := Str)) fun v21 => (j_retb (l := [0, 0]) sl_d rfl rfl)))))))) (j_retb (l := [0, 0]) sl_d rfl rfl))))))))))))))))) (fun a p hp => nomatch hp)
def y_read_order (text : PyData) : R ((List Int)) :=
  if (!(isD .str text)) = true then
  (.ex "NoText")
  else
  (ob (asS text) fun v1 =>
  ob (splitS v1 ((" " : Str))) fun v2 =>
  R.bind (lcM (fun (x3 : Str) => R.calm (R.bind (m_is_number x3) fun v4 =>
  if (!v4) = true then
  (.ok (some x3))
  else
  (.ok none))) v2 []) fun ys5 =>
  ob (neG ys5 (([] : (List Str)))) fun v6 =>
  if v6 = true then
  (.ex "NoText")
  else
  (R.bind (lcM (fun (x7 : Str) => R.calm (ob (intS x7) fun v8 =>
  .ok (some v8))) v2 []) fun ys9 =>
  R.bind (y_is_order ((toD (ys9 : (List Int))))) fun v10 =>
  if (!v10) = true then
  (.ex "NoText")
  else
  (.ok ys9)))
theorem simy_read_order (text : PyData) : FnS h_read_order [.fr text] (y_read_order text) (fun a : (List Int) => .o (toD (a : (List Int)))) (fun a : (List Int) => []) :=
  fn_mk (n := 3) (rv := fun a : (List Int) => .o (toD (a : (List Int)))) (ss := [(.d text)]) (Γe := fun a : (List Int) => [none, none, none, none]) rfl (.cons rfl All2.nil) rfl
  (j_if (j_not (j_test (j_isi (j_var rfl (j_isi2 (b := (isD .str text)) (rd_d rfl) rfl (j_bool rd_b (j_ite j_seqRaise (j_seqNil (s_asS (i := 0) rfl fun v1 => (j_asg (j_m1 (j_var rfl (j_str (rd_d rfl) (j_c (j_unopR (z := fun a => bow (toD a)) rd_b x_split fun v2 => (j_fzb (fzb_of fz_w) (j_setD (j_if (j_test (j_bin (j_lc (j_iSeq (j_var rfl (j_it (fz_d rfl) rfl (j_lcM (Γs := [some (.d (toD (v1 : Str))), some (.d (toD (v2 : (List Str)))), none, none]) (l := [1, 1, 0, 0]) (D := toD) (E := toD) (xr := fun a => toD a) rfl rfl (fun x3 => (j_gN (j_not (j_test (j_callP (j_aP (j_var rfl (j_aPs (j_anil (j_callPop rfl (la_d rfl la_nil) rfl (sim_is_number x3) (fun _ => rfl) fun v4 => (j_bool rd_b (j_ite (j_var rfl (j_kf (l := [1, 1, 0, 0]) (fz_d rfl) rfl rfl)) (j_skip (l := [1, 1, 0, 0]) rfl rfl))))))))))))) (fun _ => rfl) fun ys5 => (j_lst (j_dnil (j_lst2 (toD (([] : (List Str)) : (List Str))) rfl rfl (j_opR rd_w rd_w (x_neG (τ := (List Str))) fun v6 => (j_bool rd_b (j_ite j_seqRaise (j_seqNil (j_own (j_lc (j_iSeq (j_var rfl (j_it (fz_d rfl) rfl (j_lcM (Γs := [some (.d (toD (v1 : Str))), some (.d (toD (v2 : (List Str)))), none, none]) (l := [1, 1, 0, 0]) (D := toD) (E := toD) (xr := fun a => toD a) rfl rfl (fun x7 => (j_gN (j_tt (j_cb (j_acons (j_var rfl (j_anil (j_cbopR (ra_cons (rd_d rfl) ra_nil) x_intS fun v8 => (j_kf (l := [1, 1, 0, 0]) fz_b rfl rfl))))))))) (fun _ => rfl) fun ys9 => (j_ownb (j_setO (j_if (j_not (j_test (j_callP (j_aP (j_var rfl (j_aPs (j_anil (j_callPop rfl (la_o rfl la_nil) rfl (simy_is_order ((toD (ys9 : (List Int))))) (fun _ => rfl) fun v10 => (j_bool rd_b (j_ite j_seqRaise (j_seqNil (j_last (j_ret (j_var rfl (j_rets (l := [0, 0, 0, 0]) rfl (fun _ => sl_id) rfl rfl))))))))))))))))))))))))))))))))))))))))))))))))))))))))) (fun a p hp => nomatch hp)
def y_is_orders (thing : PyData) : R Bool :=
  R.bind (if (!(isD .list thing)) = true then
  (.ok true)
  else
  (ob (asLY thing) fun v20 =>
  R.bind (lcM (fun (x22 : PyData) => R.calm (R.bind (y_is_order x22) fun v23 =>
  if (!v23) = true then
  (.ok (some x22))
  else
  (.ok none))) v20 []) fun ys24 =>
  ob (neY ((PyData.list ((ys24 : List PyData).map idD))) ((PyData.list ((([] : (List PyData)) : List PyData).map idD)))) fun v25 =>
  .ok v25)) fun b19 =>
  if b19 = true then
  (.ok false)
  else
  (ob (asLY thing) fun v26 =>
  R.bind (lcM (fun (x27 : PyData) => R.calm (ob (lenY x27) fun v28 =>
  ob (atI v26 ((0 : Int))) fun v29 =>
  ob (lenY v29) fun v31 =>
  if (!decide (v28 = v31)) = true then
  (.ok (some x27))
  else
  (.ok none))) v26 []) fun ys32 =>
  ob (eqY ((PyData.list ((ys32 : List PyData).map idD))) ((PyData.list ((([] : (List PyData)) : List PyData).map idD)))) fun v33 =>
  .ok v33)
theorem simy_is_orders (thing : PyData) : FnS h_is_orders [.fr thing] (y_is_orders thing) (fun a : Bool => .d (toD (a : Bool))) (fun a : Bool => []) :=
  fn_mk (n := 1) (rv := fun a : Bool => .d (toD (a : Bool))) (ss := [(.d thing)]) (Γe := fun a : Bool => [none, none]) rfl (.cons rfl All2.nil) rfl
  (j_if (j_sub (bv := fun b19 : Bool => b19) (Γ1 := fun b19 : Bool => [some (.d thing), none]) (j_orC (j_not (j_test (j_isi (j_var rfl (j_isi2 (b := (isD .list thing)) (rd_d rfl) rfl (j_bool rd_b (j_ite (j_kb (l := [1, 0]) rfl rfl) (j_test (j_bin (j_lc (j_iSeq (j_var rfl (c_asLY fun v20 h21 => (j_it (fz_eq h21 (fz_d rfl)) rfl (j_lcM (Γs := [some (.d thing), none]) (l := [1, 0]) (D := idD) (E := idD) (xr := fun a => PyData.list (a.map idD)) rfl rfl (fun x22 => (j_gN (j_not (j_test (j_callP (j_aP (j_var rfl (j_aPs (j_anil (j_callPop rfl (la_d rfl la_nil) rfl (simy_is_order x22) (fun _ => rfl) fun v23 => (j_bool rd_b (j_ite (j_var rfl (j_kf (l := [1, 0]) (fz_d rfl) rfl rfl)) (j_skip (l := [1, 0]) rfl rfl))))))))))))) (fun _ => rfl) fun ys24 => (j_lst (j_dnil (j_lst2 (PyData.list ((([] : (List PyData)) : List PyData).map idD)) rfl rfl (j_opR rd_w rd_w x_neY fun v25 => (j_bool rd_b (j_kb (l := [1, 0]) rfl rfl)))))))))))))))))))))) fun b19 => (j_ite (j_ret (j_c (j_retb (l := [0, 0]) sl_d rfl rfl))) (j_seqNil (s_asLY (i := 0) rfl fun v26 => (j_last (j_ret (j_bin (j_lc (j_iSeq (j_var rfl (j_it (fz_d rfl) rfl (j_lcM (Γs := [some (.d (PyData.list ((v26 : List PyData).map idD))), none]) (l := [1, 0]) (D := idD) (E := idD) (xr := fun a => PyData.list (a.map idD)) rfl rfl (fun x27 => (j_gN (j_test (j_bin (j_cb (j_acons (j_var rfl (j_anil (j_cbopR (z := fun a => .fr (toD a)) (ra_cons (rd_d rfl) ra_nil) x_lenY fun v28 => (j_cb (j_acons (j_bin (j_var rfl (j_c (j_opR (rd_d rfl) rd_b x_ixY fun v29 => (j_anil (j_cbopR (z := fun a => .fr (toD a)) (ra_cons rd_b ra_nil) x_lenY fun v31 => (j_op rd_b rd_b (x_ne (τ := Int)) (j_bool rd_b (j_ite (j_var rfl (j_kf (l := [1, 0]) (fz_d rfl) rfl rfl)) (j_skip (l := [1, 0]) rfl rfl))))))))))))))))))))) (fun _ => rfl) fun ys32 => (j_lst (j_dnil (j_lst2 (PyData.list ((([] : (List PyData)) : List PyData).map idD)) rfl rfl (j_opR rd_w rd_w x_eqY fun v33 => (j_retb (l := [0, 0]) sl_d rfl rfl)))))))))))))))))) (fun a p hp => nomatch hp)
def y_read_orders (text : PyData) : R ((List (List Int))) :=
  if (!(isD .str text)) = true then
  (.ex "NoText")
  else
  (ob (asS text) fun v1 =>
  ob (eqG v1 (("-" : Str))) fun v2 =>
  if v2 = true then
  (.ok (([] : (List (List Int)))))
  else
  (ob (splitS v1 ((", " : Str))) fun v3 =>
  R.bind (lcM (fun (x4 : Str) => R.bind (y_read_order ((toD (x4 : Str)))) fun v5 =>
  .ok (some v5)) v3 []) fun ys6 =>
  R.bind (y_is_orders ((toD (ys6 : (List (List Int)))))) fun v7 =>
  if (!v7) = true then
  (.ex "NoText")
  else
  (.ok ys6)))
theorem simy_read_orders (text : PyData) : FnS h_read_orders [.fr text] (y_read_orders text) (fun a : (List (List Int)) => .o (toD (a : (List (List Int))))) (fun a : (List (List Int)) => []) :=
  fn_mk (n := 2) (rv := fun a : (List (List Int)) => .o (toD (a : (List (List Int))))) (ss := [(.d text)]) (Γe := fun a : (List (List Int)) => [none, none, none]) rfl (.cons rfl All2.nil) rfl
  (j_if (j_not (j_test (j_isi (j_var rfl (j_isi2 (b := (isD .str text)) (rd_d rfl) rfl (j_bool rd_b (j_ite j_seqRaise (j_seqNil (s_asS (i := 0) rfl fun v1 => (j_if (j_test (j_bin (j_var rfl (j_c (j_opR (rd_d rfl) rd_b (x_eqG (τ := Str)) fun v2 => (j_bool rd_b (j_ite (j_ret (j_lst (j_dnil (j_lst2 (toD (([] : (List (List Int))) : (List (List Int)))) rfl rfl (j_retb (l := [0, 0, 0]) sl_o rfl rfl))))) (j_seqNil (j_own (j_lcX (j_iSeq (j_m1 (j_var rfl (j_str (rd_d rfl) (j_c (j_unopR (z := fun a => bow (toD a)) rd_b x_split fun v3 => (j_it fz_w rfl (j_lcXM (Γs := [some (.d (toD (v1 : Str))), none, none]) (l := [1, 0, 0]) (D := toD) (E := toD) (xr := fun a => toD a) rfl rfl (fun x4 => (j_gN (j_tt (j_call (j_aF (j_var rfl (j_fzb (fzb_of (fz_d rfl)) (j_anil (j_callO rfl (ba_b ba_nil) (simy_read_order ((toD (x4 : Str)))) (fun _ => rfl) fun v5 => (j_kf (l := [1, 0, 0]) fz_w rfl rfl)))))))))) (fun _ => rfl) fun ys6 => (j_ownb (j_setO (j_if (j_not (j_test (j_callP (j_aP (j_var rfl (j_aPs (j_anil (j_callPop rfl (la_o rfl la_nil) rfl (simy_is_orders ((toD (ys6 : (List (List Int)))))) (fun _ => rfl) fun v7 => (j_bool rd_b (j_ite j_seqRaise (j_seqNil (j_last (j_ret (j_var rfl (j_rets (l := [0, 0, 0]) rfl (fun _ => sl_id) rfl rfl))))))))))))))))))))))))))))))))))))))))))))))) (fun a p hp => nomatch hp)
def y_show_order (order : PyData) : R Str := .no
theorem simy_show_order (order : PyData) : FnS h_show_order [.fr order] (y_show_order order) (fun a : Str => .d (toD (a : Str))) (fun a : Str => []) := trivial
def y_show_orders (orders : PyData) : R Str := .no
theorem simy_show_orders (orders : PyData) : FnS h_show_orders [.fr orders] (y_show_orders orders) (fun a : Str => .d (toD (a : Str))) (fun a : Str => []) := trivial
def y__law_asked (way : Str) (thing : PyData) : R ((Str × PyData)) :=
  trySp ["NoOrder", "NoText"] (R.bind (ob (eqG way (("show" : Str))) fun v68 =>
  if v68 = true then
  (R.bind (y_show_order thing) fun v69 =>
  .ok ((toD (v69 : Str))))
  else
  (R.bind (ob (eqG way (("shows" : Str))) fun v80 =>
  if v80 = true then
  (R.bind (y_show_orders thing) fun v81 =>
  .ok ((toD (v81 : Str))))
  else
  (R.bind (ob (eqG way (("read" : Str))) fun v86 =>
  if v86 = true then
  (R.bind (y_read_order thing) fun v87 =>
  .ok ((toD (v87 : (List Int)))))
  else
  (R.bind (y_read_orders thing) fun v88 =>
  .ok ((toD (v88 : (List (List Int))))))) fun (s85 : PyData) =>
  .ok s85)) fun (s79 : PyData) =>
  .ok s79)) fun (s67 : PyData) =>
  .ok s67) (fun (s44 : PyData) =>
  .ok ((((("told" : Str), s44)).1, ((("told" : Str), s44)).2))) fun e45 =>
  ob (isXG ["NoOrder", "NoText"] ["NoWay", "NoFit", "NoPlace", "NoNumber", "TooMany", "NoName", "NoRow"] ((some e45))) fun v89 =>
  if v89 = true then
  (.ok ((((("odd" : Str), ())).1, (toD (((("odd" : Str), ())).2 : Unit)))))
  else
  (R.bind (ob (isXG ["NoOrder", "NoText"] ["ValueError"] ((some e45))) fun v98 =>
  if (!v98) = true then
  (.ok true)
  else
  (ob (isXG ["NoOrder", "NoText"] ["NoOrder"] ((some e45))) fun v99 =>
  ob (isXG ["NoOrder", "NoText"] ["NoText"] ((some e45))) fun v100 =>
  .ok ((decide (v99 = v100))))) fun b97 =>
  if b97 = true then
  (.ok ((((("odd" : Str), ())).1, (toD (((("odd" : Str), ())).2 : Unit)))))
  else
  (ob (isXG ["NoOrder", "NoText"] ["NoOrder"] ((some e45))) fun v101 =>
  ob (atI ([("NoText" : Str), ("NoOrder" : Str)]) ((b2i v101))) fun v102 =>
  .ok ((((v102, ())).1, (toD (((v102, ())).2 : Unit))))))
theorem simy__law_asked (way : Str) (thing : PyData) : FnS h__law_asked [.fr (toD (way : Str)), .fr thing] (y__law_asked way thing) (fun a : (Str × PyData) => .d (PyData.tuple [(toD (a.1 : Str)), a.2])) (fun a : (Str × PyData) => []) :=
  fn_mk (n := 3) (rv := fun a : (Str × PyData) => .d (PyData.tuple [(toD (a.1 : Str)), a.2])) (ss := [(.d (toD (way : Str))), (.d thing)]) (Γe := fun a : (Str × PyData) => [none, none, none, none, none]) rfl (.cons rfl (.cons rfl All2.nil)) rfl
  (j_asg (j_c (j_fzb (fzb_of fz_b) (j_setD (j_asg (j_c (j_fzb (fzb_of fz_b) (j_setD (j_tryS (l := [1, 1, 1, 1, 0]) (Γ0 := [some (.d (toD (way : Str))), some (.d thing), some (.d (toD (() : Unit))), none, none]) (Γn := fun (s44 : PyData) => [some (.d (toD (way : Str))), some (.d thing), some (.d (toD (() : Unit))), some (.d s44), none]) (Γm := fun (s44 : PyData) => [some (.d (toD (way : Str))), some (.d thing), some (.d (toD (() : Unit))), some (.d s44), none]) rfl rfl (by decide) (j_last (j_seq (Γs := fun (s67 : PyData) => [some (.d (toD (way : Str))), some (.d thing), some (.d (toD (() : Unit))), some (.d s67), none]) (j_if1 (j_test (j_bin (j_var rfl (j_c (j_opR (rd_d rfl) rd_b (x_eqG (τ := Str)) fun v68 => (j_bool rd_b (j_ite (j_last (j_asg (j_callP (j_aP (j_var rfl (j_aPs (j_anil (j_callPop rfl (la_d rfl la_nil) rfl (simy_show_order thing) (fun _ => rfl) fun v69 => (j_fzb (fzb_of fz_b) (j_setD (j_nil (l := [1, 1, 1, 1, 0]) rfl rfl))))))))))) (j_last (j_seq (Γs := fun (s79 : PyData) => [some (.d (toD (way : Str))), some (.d thing), some (.d (toD (() : Unit))), some (.d s79), none]) (j_if1 (j_test (j_bin (j_var rfl (j_c (j_opR (rd_d rfl) rd_b (x_eqG (τ := Str)) fun v80 => (j_bool rd_b (j_ite (j_last (j_asg (j_callP (j_aP (j_var rfl (j_aPs (j_anil (j_callPop rfl (la_d rfl la_nil) rfl (simy_show_orders thing) (fun _ => rfl) fun v81 => (j_fzb (fzb_of fz_b) (j_setD (j_nil (l := [1, 1, 1, 1, 0]) rfl rfl))))))))))) (j_last (j_seq (Γs := fun (s85 : PyData) => [some (.d (toD (way : Str))), some (.d thing), some (.d (toD (() : Unit))), some (.d s85), none]) (j_if1 (j_test (j_bin (j_var rfl (j_c (j_opR (rd_d rfl) rd_b (x_eqG (τ := Str)) fun v86 => (j_bool rd_b (j_ite (j_last (j_asg (j_call (j_aF (j_var rfl (j_fzb (fzb_of (fz_d rfl)) (j_anil (j_callO rfl (ba_b ba_nil) (simy_read_order thing) (fun _ => rfl) fun v87 => (j_fzb (fzb_of fz_w) (j_setD (j_nil (l := [1, 1, 1, 1, 0]) rfl rfl))))))))))) (j_last (j_asg (j_call (j_aF (j_var rfl (j_fzb (fzb_of (fz_d rfl)) (j_anil (j_callO rfl (ba_b ba_nil) (simy_read_orders thing) (fun _ => rfl) fun v88 => (j_fzb (fzb_of fz_w) (j_setD (j_nil (l := [1, 1, 1, 1, 0]) rfl rfl))))))))))))))))))) fun s85 => (j_nil (l := [1, 1, 1, 1, 0]) rfl rfl))))))))))) fun s79 => (j_nil (l := [1, 1, 1, 1, 0]) rfl rfl))))))))))) fun s67 => (j_nil (l := [1, 1, 1, 1, 0]) rfl rfl))) (fun _ => rfl) (fun _ => rfl) (fun s44 => (j_if (j_test (j_isN (j_var rfl (j_isN2 (bo_s rfl) (j_bool rd_b (j_ret (j_tup (j_dcons (j_c (j_fz fz_b (j_dcons (j_var rfl (j_fz (fz_d rfl) (j_dnil (j_tup2 (PyData.tuple [(toD (((("told" : Str), s44)).1 : Str)), ((("told" : Str), s44)).2]) rfl rfl (j_retb (l := [0, 0, 0, 0, 0]) sl_d rfl rfl)))))))))))))))))) fun e45 => (j_if (j_test (j_isN (j_var rfl (j_isN2 (bo_s rfl) (j_bool rd_b (j_seqNil (j_if (j_test (j_isX (j_var rfl (j_isX2 (bo_s rfl) fun v89 => (j_bool rd_b (j_ite (j_ret (j_tup (j_dcons (j_c (j_fz fz_b (j_dcons (j_c (j_fz fz_b (j_dnil (j_tup2 (toD ((("odd" : Str), ()) : (Str × Unit))) rfl rfl (j_retb (l := [0, 0, 0, 0, 0]) sl_d rfl rfl))))))))))) (j_seqNil (j_if (j_sub (bv := fun b97 : Bool => b97) (Γ1 := fun b97 : Bool => [some (.d (toD (way : Str))), some (.d thing), some (.xo (some e45)), none, none]) (j_orC (j_not (j_test (j_isX (j_var rfl (j_isX2 (bo_s rfl) fun v98 => (j_bool rd_b (j_ite (j_kb (l := [1, 1, 1, 0, 0]) rfl rfl) (j_test (j_bin (j_isX (j_var rfl (j_isX2 (bo_s rfl) fun v99 => (j_isX (j_var rfl (j_isX2 (bo_s rfl) fun v100 => (j_op rd_b rd_b (x_eq (τ := Bool)) (j_bool rd_b (j_kb (l := [1, 1, 1, 0, 0]) rfl rfl))))))))))))))))))) fun b97 => (j_ite (j_ret (j_tup (j_dcons (j_c (j_fz fz_b (j_dcons (j_c (j_fz fz_b (j_dnil (j_tup2 (toD ((("odd" : Str), ()) : (Str × Unit))) rfl rfl (j_retb (l := [0, 0, 0, 0, 0]) sl_d rfl rfl))))))))))) (j_seqNil (j_last (j_ret (j_tup (j_dcons (j_bin (j_lst (j_dcons (j_c (j_fz fz_b (j_dcons (j_c (j_fz fz_b (j_dnil (j_lst2 (toD ([("NoText" : Str), ("NoOrder" : Str)] : (List Str))) rfl rfl (j_cb (j_acons (j_isX (j_var rfl (j_isX2 (bo_s rfl) fun v101 => (j_anil (j_cbop (ra_cons rd_b ra_nil) x_intB (j_opR rd_w rd_b (x_ix (τ := Str)) fun v102 => (j_fz fz_b (j_dcons (j_c (j_fz fz_b (j_dnil (j_tup2 (toD ((v102, ()) : (Str × Unit))) rfl rfl (j_retb (l := [0, 0, 0, 0, 0]) sl_d rfl rfl))))))))))))))))))))))))))))))))))))))))))))))))))))))))) (fun a p hp => nomatch hp)
def m__law_draw (pool : (List Int)) (many : Int) : R ((Int × (List Int))) :=
  ob (atI pool ((1 : Int))) fun v1 =>
  if (decide (v1 = (1 : Int))) = true then
  (ob (atI pool ((0 : Int))) fun v2 =>
  ob (modI v2 many) fun v3 =>
  ob (atI pool ((0 : Int))) fun v4 =>
  ob (fdivI v4 many) fun v5 =>
  ob (setI pool ((0 : Int)) v5) fun v6 =>
  .ok ((v3, v6)))
  else
  (ob (atI pool ((2 : Int))) fun v7 =>
  ob (setI pool ((2 : Int)) ((v7 + (1 : Int)))) fun v8 =>
  ob (atI v8 ((0 : Int))) fun v9 =>
  ob (atI v8 ((2 : Int))) fun v10 =>
  ob (mulI ((((v9 % (999999999989 : Int)) + ((440023 : Int) * v10)) % (999999999989 : Int))) ((((v9 % (999999999989 : Int)) + ((440023 : Int) * v10)) % (999999999989 : Int)))) fun v11 =>
  ob (mulI (((v11 % (1000000000039 : Int)) + (710009 : Int))) ((v11 % (1000000000039 : Int)))) fun v12 =>
  ob (modI (((v12 % (999999999961 : Int)) / (7 : Int))) many) fun v13 =>
  .ok ((v13, v8)))
theorem sim__law_draw (pool : (List Int)) (many : Int) : FnS h__law_draw [bow (toD (pool : (List Int))), .fr (toD (many : Int))] (m__law_draw pool many) (fun a : (Int × (List Int)) => .d (toD (a.1 : Int))) (fun a : (Int × (List Int)) => [(0, (.o (toD (a.2 : (List Int)))))]) :=
  fn_mk (n := 2) (rv := fun a : (Int × (List Int)) => .d (toD (a.1 : Int))) (ss := [(.o (toD (pool : (List Int)))), (.d (toD (many : Int)))]) (Γe := fun a : (Int × (List Int)) => [some (.o (toD (a.2 : (List Int)))), none, none, none]) rfl (.cons sl_o (.cons rfl All2.nil)) rfl
  (j_if (j_test (j_bin (j_bin (j_var rfl (j_c (j_opR (rd_o rfl) rd_b (x_ix (τ := Int)) fun v1 => (j_c (j_op rd_b rd_b (x_eq (τ := Int)) (j_bool rd_b (j_ite (j_assoc (j_own (j_bin (j_bin (j_var rfl (j_c (j_opR (rd_o rfl) rd_b (x_ix (τ := Int)) fun v2 => (j_var rfl (j_opR rd_b (rd_d rfl) x_modR fun v3 => (j_ownb (j_setD (j_assoc (j_put (j_bin (j_bin (j_var rfl (j_c (j_opR (rd_o rfl) rd_b (x_ix (τ := Int)) fun v4 => (j_var rfl (j_opR rd_b (rd_d rfl) x_fdivR fun v5 => (j_fz fz_b (j_has rfl (j_c (j_putI (y := fun a => toD a) rfl rd_b (x_set (τ := Int) _) fun v6 => (j_ret (j_var rfl (j_rets (l := [1, 0, 0, 0]) rfl (fun _ => sl_id) rfl rfl))))))))))))))))))))))))))) (j_seqNil (j_put (j_bin (j_bin (j_var rfl (j_c (j_opR (rd_o rfl) rd_b (x_ix (τ := Int)) fun v7 => (j_c (j_op rd_b rd_b x_add (j_fz fz_b (j_has rfl (j_c (j_putI (y := fun a => toD a) rfl rd_b (x_set (τ := Int) _) fun v8 => (j_asg (j_bin (j_bin (j_bin (j_bin (j_var rfl (j_c (j_opR (rd_o rfl) rd_b (x_ix (τ := Int)) fun v9 => (j_c (j_op rd_b rd_b (x_mod (by decide)) (j_bin (j_c (j_bin (j_var rfl (j_c (j_opR (rd_o rfl) rd_b (x_ix (τ := Int)) fun v10 => (j_op rd_b rd_b (x_mul (cmul_l (by decide))) (j_op rd_b rd_b x_add (j_c (j_op rd_b rd_b (x_mod (by decide)) (j_fzb (fzb_of fz_b) (j_setD (j_asg (j_bin (j_bin (j_var rfl (j_var rfl (j_opR (rd_d rfl) (rd_d rfl) x_mulR fun v11 => (j_c (j_op rd_b rd_b (x_mod (by decide)) (j_fzb (fzb_of fz_b) (j_setD (j_asg (j_bin (j_bin (j_bin (j_var rfl (j_c (j_op (rd_d rfl) rd_b x_add (j_var rfl (j_opR rd_b (rd_d rfl) x_mulR fun v12 => (j_c (j_op rd_b rd_b (x_mod (by decide)) (j_fzb (fzb_of fz_b) (j_setD (j_last (j_ret (j_bin (j_bin (j_var rfl (j_c (j_op (rd_d rfl) rd_b (x_fdiv (cfdiv_r (by decide))) (j_var rfl (j_opR rd_b (rd_d rfl) x_modR fun v13 => (j_retb (l := [1, 0, 0, 0]) sl_d rfl rfl))))))))))))))))))))))))))))))))))))))))))))))))))))))))))))))))))))))))))))))) (fun a p hp => by
    simp only [List.mem_cons, List.not_mem_nil, or_false] at hp
    subst hp; rfl)
def m__law_changed (pool : (List Int)) (text : Str) : R ((Str × (List Int))) :=
  ob (addS (("  ,,0123456789-\n\t.;:+!\"#$&'()*/<=>?@ABCDEFGHIJKLMNOPQRSTUVWXYZ" : Str)) (("[\\]^_`abcdefghijklmnopqrstuvwxyz{|}~" : Str))) fun v1 =>
  ob (lenS v1) fun v2 =>
  R.bind (m__law_draw pool ((2 : Int))) fun v3 =>
  ob (atI ([(14 : Int), v2]) v3.1) fun v4 =>
  R.bind (m__law_draw v3.2 v4) fun v5 =>
  ob (ixS v1 v5.1) fun v6 =>
  ob (lenS text) fun v7 =>
  R.bind (m__law_draw v5.2 ((v7 + (1 : Int)))) fun v8 =>
  R.bind (m__law_draw v8.2 ((12 : Int))) fun v9 =>
  ob (splitS text ((" " : Str))) fun v10 =>
  R.bind (m__law_draw v9.2 ((v10.length : Int))) fun v11 =>
  R.bind (m__law_draw v11.2 ((v10.length : Int))) fun v12 =>
  if (decide (v9.1 < (2 : Int))) = true then
  (ob (slS text none (some v8.1)) fun v13 =>
  ob (addS v13 v6) fun v14 =>
  ob (slS text (some (v8.1 + v9.1)) none) fun v15 =>
  ob (addS v14 v15) fun v16 =>
  .ok ((v16, v12.2)))
  else
  (if (decide (v9.1 = (2 : Int))) = true then
  (ob (slS text none (some v8.1)) fun v17 =>
  ob (slS text (some (v8.1 + (1 : Int))) none) fun v18 =>
  ob (addS v17 v18) fun v19 =>
  .ok ((v19, v12.2)))
  else
  (R.bind (if (decide (v9.1 = (3 : Int))) = true then
  (ob (atI v10 v11.1) fun v25 =>
  ob (atI v10 v12.1) fun v26 =>
  ob (setI v10 v11.1 v26) fun v27 =>
  ob (setI v27 v12.1 v25) fun v28 =>
  .ok v28)
  else
  (.ok v10)) fun (s24 : (List Str)) =>
  R.bind (if (decide (v9.1 = (4 : Int))) = true then
  (ob (atI s24 v12.1) fun v32 =>
  ob (insL s24 v11.1 v32) fun v33 =>
  .ok v33)
  else
  (.ok s24)) fun (s31 : (List Str)) =>
  R.bind (if (decide (v9.1 = (5 : Int))) = true then
  (ob (popI s31 v11.1) fun v36 =>
  .ok v36.2)
  else
  (.ok s31)) fun (s35 : (List Str)) =>
  R.bind (if (decide (v9.1 = (6 : Int))) = true then
  (R.bind (m__law_draw v12.2 ((3 : Int))) fun v43 =>
  ob (atI ([(14 : Int), (200 : Int), ((10 : Int) ^ ((25 : Int)).toNat)]) v43.1) fun v44 =>
  R.bind (m__law_draw v43.2 v44) fun v45 =>
  ob (strS ((toD (v45.1 : Int)))) fun v46 =>
  ob (setI s35 v11.1 v46) fun v47 =>
  .ok ((v45.2, v47)))
  else
  (.ok ((v12.2, s35)))) fun (s42 : ((List Int) × (List Str))) =>
  R.bind (if (decide (v9.1 = (7 : Int))) = true then
  (ob (atI s42.2 v11.1) fun v52 =>
  ob (addS (("0" : Str)) v52) fun v53 =>
  ob (setI s42.2 v11.1 v53) fun v54 =>
  .ok v54)
  else
  (.ok s42.2)) fun (s51 : (List Str)) =>
  R.bind (if (decide (v9.1 = (8 : Int))) = true then
  (ob (atI s51 v11.1) fun v59 =>
  ob (addS v59 (("," : Str))) fun v60 =>
  ob (setI s51 v11.1 v60) fun v61 =>
  .ok v61)
  else
  (.ok s51)) fun (s58 : (List Str)) =>
  R.bind (if (decide (v9.1 = (9 : Int))) = true then
  (ob (atI s58 v11.1) fun v66 =>
  ob (replT "," "" v66) fun v67 =>
  ob (setI s58 v11.1 v67) fun v68 =>
  .ok v68)
  else
  (.ok s58)) fun (s65 : (List Str)) =>
  R.bind (if (decide (v9.1 = (10 : Int))) = true then
  (R.bind (m__law_draw s42.1 ((6 : Int))) fun v73 =>
  ob (atI ([("0" : Str), ("0," : Str), ("" : Str), ("-" : Str), ("1 0" : Str), (", 0 1" : Str)]) v73.1) fun v74 =>
  ob (addL s65 ([v74])) fun v75 =>
  .ok ((v73.2, v75)))
  else
  (.ok ((s42.1, s65)))) fun (s72 : ((List Int) × (List Str))) =>
  if (decide (v9.1 = (11 : Int))) = true then
  (R.bind (m__law_draw s72.1 ((4 : Int))) fun v76 =>
  ob (atI ([(", " : Str), (" " : Str), ("- " : Str), ("0 " : Str)]) v76.1) fun v77 =>
  ob (addS v77 text) fun v78 =>
  .ok ((v78, v76.2)))
  else
  (ob (joinS ((" " : Str)) s72.2) fun v79 =>
  .ok ((v79, s72.1)))))
theorem sim__law_changed (pool : (List Int)) (text : Str) : FnS h__law_changed [bow (toD (pool : (List Int))), .fr (toD (text : Str))] (m__law_changed pool text) (fun a : (Str × (List Int)) => .d (toD (a.1 : Str))) (fun a : (Str × (List Int)) => [(0, (.o (toD (a.2 : (List Int)))))]) :=
  fn_mk (n := 8) (rv := fun a : (Str × (List Int)) => .d (toD (a.1 : Str))) (ss := [(.o (toD (pool : (List Int)))), (.d (toD (text : Str)))]) (Γe := fun a : (Str × (List Int)) => [some (.o (toD (a.2 : (List Int)))), none, none, none, none, none, none, none, none, none]) rfl (.cons sl_o (.cons rfl All2.nil)) rfl
  (j_re (Γ' := [some (.o (toD (pool : (List Int)))), some (.d (toD (text : Str))), none, none, none, none, none, none, none, none]) rfl (j_asg (j_c (j_fzb (fzb_of fz_b) (j_setD (j_re (Γ' := [some (.o (toD (pool : (List Int)))), some (.d (toD (text : Str))), some (.d (toD (("  ,,0123456789-\n\t.;:+!\"#$&'()*/<=>?@ABCDEFGHIJKLMNOPQRSTUVWXYZ" : Str) : Str))), none, none, none, none, none, none, none]) rfl (j_asg (j_bin (j_var rfl (j_c (j_opR (rd_d rfl) rd_b x_addS fun v1 => (j_fzb (fzb_of fz_b) (j_setD (j_re (Γ' := [some (.o (toD (pool : (List Int)))), some (.d (toD (text : Str))), some (.d (toD (v1 : Str))), none, none, none, none, none, none, none]) rfl (j_asg (j_bin (j_var rfl (j_call (j_aM rfl (j_aF (j_bin (j_lst (j_dcons (j_c (j_fz fz_b (j_dcons (j_cb (j_acons (j_var rfl (j_anil (j_cbopR (ra_cons (rd_d rfl) ra_nil) x_lenS fun v2 => (j_fz fz_b (j_dnil (j_lst2 (toD ([(14 : Int), v2] : (List Int))) rfl rfl (j_call (j_aM rfl (j_aF (j_c (j_fzb (fzb_of fz_b) (j_anil (j_callF rfl (ba_o rfl (ba_b ba_nil)) (sim__law_draw pool ((2 : Int))) (fun _ => rfl) (fun _ => rfl) fun v3 => (j_opR rd_w rd_b (x_ix (τ := Int)) fun v4 => (j_fzb (fzb_of fz_b) (j_anil (j_callF rfl (ba_o rfl (ba_b ba_nil)) (sim__law_draw v3.2 v4) (fun _ => rfl) (fun _ => rfl) fun v5 => (j_opR (rd_d rfl) rd_b x_ixS fun v6 => (j_fzb (fzb_of fz_b) (j_setD (j_re (Γ' := [some (.o (toD (v5.2 : (List Int)))), some (.d (toD (text : Str))), some (.d (toD (v1 : Str))), some (.d (toD (v6 : Str))), none, none, none, none, none, none]) rfl (j_asg (j_call (j_aM rfl (j_aF (j_bin (j_cb (j_acons (j_var rfl (j_anil (j_cbopR (ra_cons (rd_d rfl) ra_nil) x_lenS fun v7 => (j_c (j_op rd_b rd_b x_add (j_fzb (fzb_of fz_b) (j_anil (j_callF rfl (ba_o rfl (ba_b ba_nil)) (sim__law_draw v5.2 ((v7 + (1 : Int)))) (fun _ => rfl) (fun _ => rfl) fun v8 => (j_fzb (fzb_of fz_b) (j_setD (j_re (Γ' := [some (.o (toD (v8.2 : (List Int)))), some (.d (toD (text : Str))), some (.d (toD (v1 : Str))), some (.d (toD (v6 : Str))), some (.d (toD (v8.1 : Int))), none, none, none, none, none]) rfl (j_asg (j_call (j_aM rfl (j_aF (j_c (j_fzb (fzb_of fz_b) (j_anil (j_callF rfl (ba_o rfl (ba_b ba_nil)) (sim__law_draw v8.2 ((12 : Int))) (fun _ => rfl) (fun _ => rfl) fun v9 => (j_fzb (fzb_of fz_b) (j_setD (j_re (Γ' := [some (.o (toD (v9.2 : (List Int)))), some (.d (toD (text : Str))), some (.d (toD (v1 : Str))), some (.d (toD (v6 : Str))), some (.d (toD (v8.1 : Int))), some (.d (toD (v9.1 : Int))), none, none, none, none]) rfl (j_own (j_m1 (j_var rfl (j_str (rd_d rfl) (j_c (j_unopR (z := fun a => bow (toD a)) rd_b x_split fun v10 => (j_ownb (j_setO (j_re (Γ' := [some (.o (toD (v9.2 : (List Int)))), some (.d (toD (text : Str))), some (.d (toD (v1 : Str))), some (.d (toD (v6 : Str))), some (.d (toD (v8.1 : Int))), some (.d (toD (v9.1 : Int))), some (.o (toD (v10 : (List Str)))), none, none, none]) rfl (j_asg (j_call (j_aM rfl (j_aF (j_cb (j_acons (j_var rfl (j_anil (j_cbop (ra_cons (rd_o rfl) ra_nil) (x_len (τ := Str)) (j_fzb (fzb_of fz_b) (j_anil (j_callF rfl (ba_o rfl (ba_b ba_nil)) (sim__law_draw v9.2 ((v10.length : Int))) (fun _ => rfl) (fun _ => rfl) fun v11 => (j_fzb (fzb_of fz_b) (j_setD (j_re (Γ' := [some (.o (toD (v11.2 : (List Int)))), some (.d (toD (text : Str))), some (.d (toD (v1 : Str))), some (.d (toD (v6 : Str))), some (.d (toD (v8.1 : Int))), some (.d (toD (v9.1 : Int))), some (.o (toD (v10 : (List Str)))), some (.d (toD (v11.1 : Int))), none, none]) rfl (j_asg (j_call (j_aM rfl (j_aF (j_cb (j_acons (j_var rfl (j_anil (j_cbop (ra_cons (rd_o rfl) ra_nil) (x_len (τ := Str)) (j_fzb (fzb_of fz_b) (j_anil (j_callF rfl (ba_o rfl (ba_b ba_nil)) (sim__law_draw v11.2 ((v10.length : Int))) (fun _ => rfl) (fun _ => rfl) fun v12 => (j_fzb (fzb_of fz_b) (j_setD (j_re (Γ' := [some (.o (toD (v12.2 : (List Int)))), some (.d (toD (text : Str))), some (.d (toD (v1 : Str))), some (.d (toD (v6 : Str))), some (.d (toD (v8.1 : Int))), some (.d (toD (v9.1 : Int))), some (.o (toD (v10 : (List Str)))), some (.d (toD (v11.1 : Int))), some (.d (toD (v12.1 : Int))), none]) rfl (j_if (j_test (j_bin (j_var rfl (j_c (j_op (rd_d rfl) rd_b x_lt (j_bool rd_b (j_ite (j_re (Γ' := [some (.o (toD (v12.2 : (List Int)))), some (.d (toD (text : Str))), some (.d (toD (v1 : Str))), some (.d (toD (v6 : Str))), some (.d (toD (v8.1 : Int))), some (.d (toD (v9.1 : Int))), some (.o (toD (v10 : (List Str)))), some (.d (toD (v11.1 : Int))), some (.d (toD (v12.1 : Int))), none]) rfl (j_ret (j_bin (j_bin (j_sl (j_var rfl (j_ono (j_osome (j_var rfl (j_int (rd_d rfl) (j_slopR (rd_d rfl) x_slS fun v13 => (j_var rfl (j_opR rd_b (rd_d rfl) x_addS fun v14 => (j_sl (j_var rfl (j_osome (j_bin (j_var rfl (j_var rfl (j_op (rd_d rfl) (rd_d rfl) x_add (j_int rd_b (j_ono (j_slopR (rd_d rfl) x_slS fun v15 => (j_opR rd_b rd_b x_addS fun v16 => (j_retb (l := [1, 0, 0, 0, 0, 0, 0, 0, 0, 0]) sl_d rfl rfl))))))))))))))))))))))))) (j_seqNil (j_re (Γ' := [some (.o (toD (v12.2 : (List Int)))), some (.d (toD (text : Str))), some (.d (toD (v1 : Str))), some (.d (toD (v6 : Str))), some (.d (toD (v8.1 : Int))), some (.d (toD (v9.1 : Int))), some (.o (toD (v10 : (List Str)))), some (.d (toD (v11.1 : Int))), some (.d (toD (v12.1 : Int))), none]) rfl (j_if (j_test (j_bin (j_var rfl (j_c (j_op (rd_d rfl) rd_b (x_eq (τ := Int)) (j_bool rd_b (j_ite (j_re (Γ' := [some (.o (toD (v12.2 : (List Int)))), some (.d (toD (text : Str))), some (.d (toD (v1 : Str))), some (.d (toD (v6 : Str))), some (.d (toD (v8.1 : Int))), some (.d (toD (v9.1 : Int))), some (.o (toD (v10 : (List Str)))), some (.d (toD (v11.1 : Int))), some (.d (toD (v12.1 : Int))), none]) rfl (j_ret (j_bin (j_sl (j_var rfl (j_ono (j_osome (j_var rfl (j_int (rd_d rfl) (j_slopR (rd_d rfl) x_slS fun v17 => (j_sl (j_var rfl (j_osome (j_bin (j_var rfl (j_c (j_op (rd_d rfl) rd_b x_add (j_int rd_b (j_ono (j_slopR (rd_d rfl) x_slS fun v18 => (j_opR rd_b rd_b x_addS fun v19 => (j_retb (l := [1, 0, 0, 0, 0, 0, 0, 0, 0, 0]) sl_d rfl rfl)))))))))))))))))))))) (j_seqNil (j_re (Γ' := [some (.o (toD (v12.2 : (List Int)))), some (.d (toD (text : Str))), some (.d (toD (v1 : Str))), some (.d (toD (v6 : Str))), some (.d (toD (v8.1 : Int))), some (.d (toD (v9.1 : Int))), some (.o (toD (v10 : (List Str)))), some (.d (toD (v11.1 : Int))), some (.d (toD (v12.1 : Int))), none]) rfl (j_seq (Γs := fun (s24 : (List Str)) => [some (.o (toD (v12.2 : (List Int)))), some (.d (toD (text : Str))), some (.d (toD (v1 : Str))), some (.d (toD (v6 : Str))), some (.d (toD (v8.1 : Int))), some (.d (toD (v9.1 : Int))), some (.o (toD (s24 : (List Str)))), some (.d (toD (v11.1 : Int))), some (.d (toD (v12.1 : Int))), none]) (j_if1 (j_test (j_bin (j_var rfl (j_c (j_op (rd_d rfl) rd_b (x_eq (τ := Int)) (j_bool rd_b (j_ite (j_re (Γ' := [some (.o (toD (v12.2 : (List Int)))), some (.d (toD (text : Str))), some (.d (toD (v1 : Str))), some (.d (toD (v6 : Str))), some (.d (toD (v8.1 : Int))), some (.d (toD (v9.1 : Int))), some (.o (toD (v10 : (List Str)))), some (.d (toD (v11.1 : Int))), some (.d (toD (v12.1 : Int))), none]) rfl (j_asg (j_bin (j_var rfl (j_var rfl (j_opR (rd_o rfl) (rd_d rfl) (x_ix (τ := Str)) fun v25 => (j_fzb (fzb_of fz_b) (j_setD (j_re (Γ' := [some (.o (toD (v12.2 : (List Int)))), some (.d (toD (text : Str))), some (.d (toD (v1 : Str))), some (.d (toD (v6 : Str))), some (.d (toD (v8.1 : Int))), some (.d (toD (v9.1 : Int))), some (.o (toD (v10 : (List Str)))), some (.d (toD (v11.1 : Int))), some (.d (toD (v12.1 : Int))), some (.d (toD (v25 : Str)))]) rfl (j_put (j_bin (j_var rfl (j_var rfl (j_opR (rd_o rfl) (rd_d rfl) (x_ix (τ := Str)) fun v26 => (j_fz fz_b (j_has rfl (j_var rfl (j_putI (y := fun a => toD a) rfl (rd_d rfl) (x_set (τ := Str) _) fun v27 => (j_last (j_re (Γ' := [some (.o (toD (v12.2 : (List Int)))), some (.d (toD (text : Str))), some (.d (toD (v1 : Str))), some (.d (toD (v6 : Str))), some (.d (toD (v8.1 : Int))), some (.d (toD (v9.1 : Int))), some (.o (toD (v27 : (List Str)))), some (.d (toD (v11.1 : Int))), some (.d (toD (v12.1 : Int))), some (.d (toD (v25 : Str)))]) rfl (j_put (j_var rfl (j_fz (fz_d rfl) (j_has rfl (j_var rfl (j_putI (y := fun a => toD a) rfl (rd_d rfl) (x_set (τ := Str) _) fun v28 => (j_nil (l := [1, 1, 1, 1, 1, 1, 1, 1, 1, 0]) rfl rfl))))))))))))))))))))))))))) (j_nil (l := [1, 1, 1, 1, 1, 1, 1, 1, 1, 0]) rfl rfl))))))))) fun s24 => (j_re (Γ' := [some (.o (toD (v12.2 : (List Int)))), some (.d (toD (text : Str))), some (.d (toD (v1 : Str))), some (.d (toD (v6 : Str))), some (.d (toD (v8.1 : Int))), some (.d (toD (v9.1 : Int))), some (.o (toD (s24 : (List Str)))), some (.d (toD (v11.1 : Int))), some (.d (toD (v12.1 : Int))), none]) rfl (j_seq (Γs := fun (s31 : (List Str)) => [some (.o (toD (v12.2 : (List Int)))), some (.d (toD (text : Str))), some (.d (toD (v1 : Str))), some (.d (toD (v6 : Str))), some (.d (toD (v8.1 : Int))), some (.d (toD (v9.1 : Int))), some (.o (toD (s31 : (List Str)))), some (.d (toD (v11.1 : Int))), some (.d (toD (v12.1 : Int))), none]) (j_if1 (j_test (j_bin (j_var rfl (j_c (j_op (rd_d rfl) rd_b (x_eq (τ := Int)) (j_bool rd_b (j_ite (j_last (j_re (Γ' := [some (.o (toD (v12.2 : (List Int)))), some (.d (toD (text : Str))), some (.d (toD (v1 : Str))), some (.d (toD (v6 : Str))), some (.d (toD (v8.1 : Int))), some (.d (toD (v9.1 : Int))), some (.o (toD (s24 : (List Str)))), some (.d (toD (v11.1 : Int))), some (.d (toD (v12.1 : Int))), none]) rfl (j_expr (j_mth (j_chk rfl rfl (j_dcons (j_var rfl (j_fz (fz_d rfl) (j_dcons (j_bin (j_var rfl (j_var rfl (j_opR (rd_o rfl) (rd_d rfl) (x_ix (τ := Str)) fun v32 => (j_fz fz_b (j_dnil (j_mthopR (z := fun _ => .fr .none) (es := fun a => a.map toD) (y := fun a => toD a) rfl (x_ins (τ := Str)) (fun _ => rfl) fun v33 => (j_nil (l := [1, 1, 1, 1, 1, 1, 1, 1, 1, 0]) rfl rfl))))))))))))))))) (j_nil (l := [1, 1, 1, 1, 1, 1, 1, 1, 1, 0]) rfl rfl))))))))) fun s31 => (j_re (Γ' := [some (.o (toD (v12.2 : (List Int)))), some (.d (toD (text : Str))), some (.d (toD (v1 : Str))), some (.d (toD (v6 : Str))), some (.d (toD (v8.1 : Int))), some (.d (toD (v9.1 : Int))), some (.o (toD (s31 : (List Str)))), some (.d (toD (v11.1 : Int))), some (.d (toD (v12.1 : Int))), none]) rfl (j_seq (Γs := fun (s35 : (List Str)) => [some (.o (toD (v12.2 : (List Int)))), some (.d (toD (text : Str))), some (.d (toD (v1 : Str))), some (.d (toD (v6 : Str))), some (.d (toD (v8.1 : Int))), some (.d (toD (v9.1 : Int))), some (.o (toD (s35 : (List Str)))), some (.d (toD (v11.1 : Int))), some (.d (toD (v12.1 : Int))), none]) (j_if1 (j_test (j_bin (j_var rfl (j_c (j_op (rd_d rfl) rd_b (x_eq (τ := Int)) (j_bool rd_b (j_ite (j_last (j_re (Γ' := [some (.o (toD (v12.2 : (List Int)))), some (.d (toD (text : Str))), some (.d (toD (v1 : Str))), some (.d (toD (v6 : Str))), some (.d (toD (v8.1 : Int))), some (.d (toD (v9.1 : Int))), some (.o (toD (s31 : (List Str)))), some (.d (toD (v11.1 : Int))), some (.d (toD (v12.1 : Int))), none]) rfl (j_expr (j_mth (j_chk rfl rfl (j_dcons (j_var rfl (j_fz (fz_d rfl) (j_dnil (j_mthopR (z := fun a => .fr (toD a.1)) (es := fun a => a.2.map toD) (y := fun a => toD a.2) rfl (x_popI (τ := Str)) (fun _ => rfl) fun v36 => (j_nil (l := [1, 1, 1, 1, 1, 1, 1, 1, 1, 0]) rfl rfl))))))))))) (j_nil (l := [1, 1, 1, 1, 1, 1, 1, 1, 1, 0]) rfl rfl))))))))) fun s35 => (j_re (Γ' := [some (.o (toD (v12.2 : (List Int)))), some (.d (toD (text : Str))), some (.d (toD (v1 : Str))), some (.d (toD (v6 : Str))), some (.d (toD (v8.1 : Int))), some (.d (toD (v9.1 : Int))), some (.o (toD (s35 : (List Str)))), some (.d (toD (v11.1 : Int))), some (.d (toD (v12.1 : Int))), none]) rfl (j_seq (Γs := fun (s42 : ((List Int) × (List Str))) => [some (.o (toD (s42.1 : (List Int)))), some (.d (toD (text : Str))), some (.d (toD (v1 : Str))), some (.d (toD (v6 : Str))), some (.d (toD (v8.1 : Int))), some (.d (toD (v9.1 : Int))), some (.o (toD (s42.2 : (List Str)))), some (.d (toD (v11.1 : Int))), some (.d (toD (v12.1 : Int))), none]) (j_if1 (j_test (j_bin (j_var rfl (j_c (j_op (rd_d rfl) rd_b (x_eq (τ := Int)) (j_bool rd_b (j_ite (j_last (j_re (Γ' := [some (.o (toD (v12.2 : (List Int)))), some (.d (toD (text : Str))), some (.d (toD (v1 : Str))), some (.d (toD (v6 : Str))), some (.d (toD (v8.1 : Int))), some (.d (toD (v9.1 : Int))), some (.o (toD (s35 : (List Str)))), some (.d (toD (v11.1 : Int))), some (.d (toD (v12.1 : Int))), none]) rfl (j_put (j_un (j_call (j_aM rfl (j_aF (j_bin (j_lst (j_dcons (j_c (j_fz fz_b (j_dcons (j_c (j_fz fz_b (j_dcons (j_bin (j_c (j_c (j_op rd_b rd_b (x_pow (by decide)) (j_fz fz_b (j_dnil (j_lst2 (toD ([(14 : Int), (200 : Int), ((10 : Int) ^ ((25 : Int)).toNat)] : (List Int))) rfl rfl (j_call (j_aM rfl (j_aF (j_c (j_fzb (fzb_of fz_b) (j_anil (j_callF rfl (ba_o rfl (ba_b ba_nil)) (sim__law_draw v12.2 ((3 : Int))) (fun _ => rfl) (fun _ => rfl) fun v43 => (j_opR rd_w rd_b (x_ix (τ := Int)) fun v44 => (j_fzb (fzb_of fz_b) (j_anil (j_callF rfl (ba_o rfl (ba_b ba_nil)) (sim__law_draw v43.2 v44) (fun _ => rfl) (fun _ => rfl) fun v45 => (j_unopR (z := fun a => .fr (toD a)) rd_b x_strA fun v46 => (j_fz fz_b (j_has rfl (j_var rfl (j_putI (y := fun a => toD a) rfl (rd_d rfl) (x_set (τ := Str) _) fun v47 => (j_nil (l := [1, 1, 1, 1, 1, 1, 1, 1, 1, 0]) rfl rfl)))))))))))))))))))))))))))))))))))))))) (j_nil (l := [1, 1, 1, 1, 1, 1, 1, 1, 1, 0]) rfl rfl))))))))) fun s42 => (j_re (Γ' := [some (.o (toD (s42.1 : (List Int)))), some (.d (toD (text : Str))), some (.d (toD (v1 : Str))), some (.d (toD (v6 : Str))), some (.d (toD (v8.1 : Int))), some (.d (toD (v9.1 : Int))), some (.o (toD (s42.2 : (List Str)))), some (.d (toD (v11.1 : Int))), some (.d (toD (v12.1 : Int))), none]) rfl (j_seq (Γs := fun (s51 : (List Str)) => [some (.o (toD (s42.1 : (List Int)))), some (.d (toD (text : Str))), some (.d (toD (v1 : Str))), some (.d (toD (v6 : Str))), some (.d (toD (v8.1 : Int))), some (.d (toD (v9.1 : Int))), some (.o (toD (s51 : (List Str)))), some (.d (toD (v11.1 : Int))), some (.d (toD (v12.1 : Int))), none]) (j_if1 (j_test (j_bin (j_var rfl (j_c (j_op (rd_d rfl) rd_b (x_eq (τ := Int)) (j_bool rd_b (j_ite (j_last (j_re (Γ' := [some (.o (toD (s42.1 : (List Int)))), some (.d (toD (text : Str))), some (.d (toD (v1 : Str))), some (.d (toD (v6 : Str))), some (.d (toD (v8.1 : Int))), some (.d (toD (v9.1 : Int))), some (.o (toD (s42.2 : (List Str)))), some (.d (toD (v11.1 : Int))), some (.d (toD (v12.1 : Int))), none]) rfl (j_put (j_bin (j_c (j_bin (j_var rfl (j_var rfl (j_opR (rd_o rfl) (rd_d rfl) (x_ix (τ := Str)) fun v52 => (j_opR rd_b rd_b x_addS fun v53 => (j_fz fz_b (j_has rfl (j_var rfl (j_putI (y := fun a => toD a) rfl (rd_d rfl) (x_set (τ := Str) _) fun v54 => (j_nil (l := [1, 1, 1, 1, 1, 1, 1, 1, 1, 0]) rfl rfl))))))))))))))) (j_nil (l := [1, 1, 1, 1, 1, 1, 1, 1, 1, 0]) rfl rfl))))))))) fun s51 => (j_re (Γ' := [some (.o (toD (s42.1 : (List Int)))), some (.d (toD (text : Str))), some (.d (toD (v1 : Str))), some (.d (toD (v6 : Str))), some (.d (toD (v8.1 : Int))), some (.d (toD (v9.1 : Int))), some (.o (toD (s51 : (List Str)))), some (.d (toD (v11.1 : Int))), some (.d (toD (v12.1 : Int))), none]) rfl (j_seq (Γs := fun (s58 : (List Str)) => [some (.o (toD (s42.1 : (List Int)))), some (.d (toD (text : Str))), some (.d (toD (v1 : Str))), some (.d (toD (v6 : Str))), some (.d (toD (v8.1 : Int))), some (.d (toD (v9.1 : Int))), some (.o (toD (s58 : (List Str)))), some (.d (toD (v11.1 : Int))), some (.d (toD (v12.1 : Int))), none]) (j_if1 (j_test (j_bin (j_var rfl (j_c (j_op (rd_d rfl) rd_b (x_eq (τ := Int)) (j_bool rd_b (j_ite (j_last (j_re (Γ' := [some (.o (toD (s42.1 : (List Int)))), some (.d (toD (text : Str))), some (.d (toD (v1 : Str))), some (.d (toD (v6 : Str))), some (.d (toD (v8.1 : Int))), some (.d (toD (v9.1 : Int))), some (.o (toD (s51 : (List Str)))), some (.d (toD (v11.1 : Int))), some (.d (toD (v12.1 : Int))), none]) rfl (j_put (j_bin (j_bin (j_var rfl (j_var rfl (j_opR (rd_o rfl) (rd_d rfl) (x_ix (τ := Str)) fun v59 => (j_c (j_opR rd_b rd_b x_addS fun v60 => (j_fz fz_b (j_has rfl (j_var rfl (j_putI (y := fun a => toD a) rfl (rd_d rfl) (x_set (τ := Str) _) fun v61 => (j_nil (l := [1, 1, 1, 1, 1, 1, 1, 1, 1, 0]) rfl rfl))))))))))))))) (j_nil (l := [1, 1, 1, 1, 1, 1, 1, 1, 1, 0]) rfl rfl))))))))) fun s58 => (j_re (Γ' := [some (.o (toD (s42.1 : (List Int)))), some (.d (toD (text : Str))), some (.d (toD (v1 : Str))), some (.d (toD (v6 : Str))), some (.d (toD (v8.1 : Int))), some (.d (toD (v9.1 : Int))), some (.o (toD (s58 : (List Str)))), some (.d (toD (v11.1 : Int))), some (.d (toD (v12.1 : Int))), none]) rfl (j_seq (Γs := fun (s65 : (List Str)) => [some (.o (toD (s42.1 : (List Int)))), some (.d (toD (text : Str))), some (.d (toD (v1 : Str))), some (.d (toD (v6 : Str))), some (.d (toD (v8.1 : Int))), some (.d (toD (v9.1 : Int))), some (.o (toD (s65 : (List Str)))), some (.d (toD (v11.1 : Int))), some (.d (toD (v12.1 : Int))), none]) (j_if1 (j_test (j_bin (j_var rfl (j_c (j_op (rd_d rfl) rd_b (x_eq (τ := Int)) (j_bool rd_b (j_ite (j_last (j_re (Γ' := [some (.o (toD (s42.1 : (List Int)))), some (.d (toD (text : Str))), some (.d (toD (v1 : Str))), some (.d (toD (v6 : Str))), some (.d (toD (v8.1 : Int))), some (.d (toD (v9.1 : Int))), some (.o (toD (s58 : (List Str)))), some (.d (toD (v11.1 : Int))), some (.d (toD (v12.1 : Int))), none]) rfl (j_put (j_un (j_bin (j_var rfl (j_var rfl (j_opR (rd_o rfl) (rd_d rfl) (x_ix (τ := Str)) fun v66 => (j_unopR (z := fun a => .fr (toD a)) rd_b (x_repl (y := ",") (z := "")) fun v67 => (j_fz fz_b (j_has rfl (j_var rfl (j_putI (y := fun a => toD a) rfl (rd_d rfl) (x_set (τ := Str) _) fun v68 => (j_nil (l := [1, 1, 1, 1, 1, 1, 1, 1, 1, 0]) rfl rfl)))))))))))))) (j_nil (l := [1, 1, 1, 1, 1, 1, 1, 1, 1, 0]) rfl rfl))))))))) fun s65 => (j_re (Γ' := [some (.o (toD (s42.1 : (List Int)))), some (.d (toD (text : Str))), some (.d (toD (v1 : Str))), some (.d (toD (v6 : Str))), some (.d (toD (v8.1 : Int))), some (.d (toD (v9.1 : Int))), some (.o (toD (s65 : (List Str)))), some (.d (toD (v11.1 : Int))), some (.d (toD (v12.1 : Int))), none]) rfl (j_seq (Γs := fun (s72 : ((List Int) × (List Str))) => [some (.o (toD (s72.1 : (List Int)))), some (.d (toD (text : Str))), some (.d (toD (v1 : Str))), some (.d (toD (v6 : Str))), some (.d (toD (v8.1 : Int))), some (.d (toD (v9.1 : Int))), some (.o (toD (s72.2 : (List Str)))), some (.d (toD (v11.1 : Int))), some (.d (toD (v12.1 : Int))), none]) (j_if1 (j_test (j_bin (j_var rfl (j_c (j_op (rd_d rfl) rd_b (x_eq (τ := Int)) (j_bool rd_b (j_ite (j_last (j_re (Γ' := [some (.o (toD (s42.1 : (List Int)))), some (.d (toD (text : Str))), some (.d (toD (v1 : Str))), some (.d (toD (v6 : Str))), some (.d (toD (v8.1 : Int))), some (.d (toD (v9.1 : Int))), some (.o (toD (s65 : (List Str)))), some (.d (toD (v11.1 : Int))), some (.d (toD (v12.1 : Int))), none]) rfl (j_own (j_bin (j_var rfl (j_lst (j_dcons (j_bin (j_lst (j_dcons (j_c (j_fz fz_b (j_dcons (j_c (j_fz fz_b (j_dcons (j_c (j_fz fz_b (j_dcons (j_c (j_fz fz_b (j_dcons (j_c (j_fz fz_b (j_dcons (j_c (j_fz fz_b (j_dnil (j_lst2 (toD ([("0" : Str), ("0," : Str), ("" : Str), ("-" : Str), ("1 0" : Str), (", 0 1" : Str)] : (List Str))) rfl rfl (j_call (j_aM rfl (j_aF (j_c (j_fzb (fzb_of fz_b) (j_anil (j_callF rfl (ba_o rfl (ba_b ba_nil)) (sim__law_draw s42.1 ((6 : Int))) (fun _ => rfl) (fun _ => rfl) fun v73 => (j_opR rd_w rd_b (x_ix (τ := Str)) fun v74 => (j_fz fz_b (j_dnil (j_lst2 (toD ([v74] : (List Str))) rfl rfl (j_opR (rd_o rfl) rd_w (x_addL (τ := Str)) fun v75 => (j_ownb (j_setO (j_nil (l := [1, 1, 1, 1, 1, 1, 1, 1, 1, 0]) rfl rfl)))))))))))))))))))))))))))))))))))))))))))) (j_nil (l := [1, 1, 1, 1, 1, 1, 1, 1, 1, 0]) rfl rfl))))))))) fun s72 => (j_re (Γ' := [some (.o (toD (s72.1 : (List Int)))), some (.d (toD (text : Str))), some (.d (toD (v1 : Str))), some (.d (toD (v6 : Str))), some (.d (toD (v8.1 : Int))), some (.d (toD (v9.1 : Int))), some (.o (toD (s72.2 : (List Str)))), some (.d (toD (v11.1 : Int))), some (.d (toD (v12.1 : Int))), none]) rfl (j_if (j_test (j_bin (j_var rfl (j_c (j_op (rd_d rfl) rd_b (x_eq (τ := Int)) (j_bool rd_b (j_ite (j_re (Γ' := [some (.o (toD (s72.1 : (List Int)))), some (.d (toD (text : Str))), some (.d (toD (v1 : Str))), some (.d (toD (v6 : Str))), some (.d (toD (v8.1 : Int))), some (.d (toD (v9.1 : Int))), some (.o (toD (s72.2 : (List Str)))), some (.d (toD (v11.1 : Int))), some (.d (toD (v12.1 : Int))), none]) rfl (j_ret (j_bin (j_bin (j_lst (j_dcons (j_c (j_fz fz_b (j_dcons (j_c (j_fz fz_b (j_dcons (j_c (j_fz fz_b (j_dcons (j_c (j_fz fz_b (j_dnil (j_lst2 (toD ([(", " : Str), (" " : Str), ("- " : Str), ("0 " : Str)] : (List Str))) rfl rfl (j_call (j_aM rfl (j_aF (j_c (j_fzb (fzb_of fz_b) (j_anil (j_callF rfl (ba_o rfl (ba_b ba_nil)) (sim__law_draw s72.1 ((4 : Int))) (fun _ => rfl) (fun _ => rfl) fun v76 => (j_opR rd_w rd_b (x_ix (τ := Str)) fun v77 => (j_var rfl (j_opR rd_b (rd_d rfl) x_addS fun v78 => (j_retb (l := [1, 0, 0, 0, 0, 0, 0, 0, 0, 0]) sl_d rfl rfl)))))))))))))))))))))))))))))) (j_seqNil (j_last (j_re (Γ' := [some (.o (toD (s72.1 : (List Int)))), some (.d (toD (text : Str))), some (.d (toD (v1 : Str))), some (.d (toD (v6 : Str))), some (.d (toD (v8.1 : Int))), some (.d (toD (v9.1 : Int))), some (.o (toD (s72.2 : (List Str)))), some (.d (toD (v11.1 : Int))), some (.d (toD (v12.1 : Int))), none]) rfl (j_ret (j_m1 (j_c (j_str rd_b (j_var rfl (j_unopR (z := fun a => .fr (toD a)) (rd_o rfl) x_join fun v79 => (j_retb (l := [1, 0, 0, 0, 0, 0, 0, 0, 0, 0]) sl_d rfl rfl))))))))))))))))))))))))))))))))))))))))))))))))))))))))))))))))))))))))))))))))))))))))))))))))))))))))))))))))))))))))))))))))))))))))))))))))))))))))))))))))))))))))))) (fun a p hp => by
    simp only [List.mem_cons, List.not_mem_nil, or_false] at hp
    subst hp; rfl)
def m__law_written (order : (List Int)) : R Str :=
  R.bind (lcM (fun (x1 : Int) => R.calm (ob (strS ((toD (x1 : Int)))) fun v2 =>
  .ok (some v2))) order []) fun ys3 =>
  ob (joinS ((" " : Str)) ys3) fun v4 =>
  .ok v4
theorem sim__law_written (order : (List Int)) : FnS h__law_written [.fr (toD (order : (List Int)))] (m__law_written order) (fun a : Str => .d (toD (a : Str))) (fun a : Str => []) :=
  fn_mk (n := 1) (rv := fun a : Str => .d (toD (a : Str))) (ss := [(.d (toD (order : (List Int))))]) (Γe := fun a : Str => [none, none]) rfl (.cons rfl All2.nil) rfl
  (j_last (j_ret (j_m1 (j_c (j_str rd_b (j_lc (j_iSeq (j_var rfl (j_it (fz_d rfl) rfl (j_lcM (Γs := [some (.d (toD (order : (List Int)))), none]) (l := [1, 0]) (D := toD) (E := toD) (xr := fun a => toD a) rfl rfl (fun x1 => (j_gN (j_tt (j_un (j_var rfl (j_unopR (z := fun a => .fr (toD a)) (rd_d rfl) x_strA fun v2 => (j_kf (l := [1, 0]) fz_b rfl rfl))))))) (fun _ => rfl) fun ys3 => (j_unopR (z := fun a => .fr (toD a)) rd_w x_join fun v4 => (j_retb (l := [0, 0]) sl_d rfl rfl)))))))))))) (fun a p hp => nomatch hp)
def m__law_list_written (orders : (List (List Int))) : R Str :=
  if (!decide (orders = ([] : (List (List Int))))) = true then
  (R.bind (lcM (fun (x1 : (List Int)) => R.calm (R.bind (m__law_written x1) fun v2 =>
  .ok (some v2))) orders []) fun ys3 =>
  ob (joinS ((", " : Str)) ys3) fun v4 =>
  .ok v4)
  else
  (.ok (("-" : Str)))
theorem sim__law_list_written (orders : (List (List Int))) : FnS h__law_list_written [.fr (toD (orders : (List (List Int))))] (m__law_list_written orders) (fun a : Str => .d (toD (a : Str))) (fun a : Str => []) :=
  fn_mk (n := 1) (rv := fun a : Str => .d (toD (a : Str))) (ss := [(.d (toD (orders : (List (List Int)))))]) (Γe := fun a : Str => [none, none]) rfl (.cons rfl All2.nil) rfl
  (j_last (j_ret (j_fIf (j_test (j_bin (j_var rfl (j_lst (j_dnil (j_lst2 (toD (([] : (List (List Int))) : (List (List Int)))) rfl rfl (j_op (rd_d rfl) rd_w (x_ne (τ := (List (List Int)))) (j_bool rd_b (j_ite (j_m1 (j_c (j_str rd_b (j_lc (j_iSeq (j_var rfl (j_it (fz_d rfl) rfl (j_lcM (Γs := [some (.d (toD (orders : (List (List Int))))), none]) (l := [1, 0]) (D := toD) (E := toD) (xr := fun a => toD a) rfl rfl (fun x1 => (j_gN (j_tt (j_callP (j_aP (j_var rfl (j_aPs (j_anil (j_callPop rfl (la_d rfl la_nil) rfl (sim__law_written x1) (fun _ => rfl) fun v2 => (j_kf (l := [1, 0]) fz_b rfl rfl)))))))))) (fun _ => rfl) fun ys3 => (j_unopR (z := fun a => .fr (toD a)) rd_w x_join fun v4 => (j_retb (l := [0, 0]) sl_d rfl rfl)))))))))) (j_c (j_retb (l := [0, 0]) sl_d rfl rfl)))))))))))))) (fun a p hp => nomatch hp)
def m__law_odd (pool : (List Int)) : R ((Str × (List Int))) :=
  ob (addL ([("" : Str), (" " : Str), ("-" : Str), ("--" : Str), ("- " : Str), ("," : Str), (", " : Str), ("0" : Str), ("1" : Str)]) ([("0 0" : Str), ("1 0" : Str), ("01" : Str), ("0 01" : Str), ("0," : Str), ("0, 0" : Str), ("0,0" : Str), ("0,  0" : Str), ("0 1, 0" : Str)])) fun v1 =>
  ob (addL v1 ([("0, -" : Str), ("-, 0" : Str), ("0\n" : Str), ("0\t1" : Str), ("+0" : Str), ("0 1 3" : Str)])) fun v2 =>
  ob (addL v2 ([("0 2" : Str), ("0.0" : Str), ("0 1 2 3 4 5 6 7 8 9 10 11" : Str), ("0 , 0" : Str), ("0, 0, 0 " : Str)])) fun v3 =>
  ob (addL v3 ([("0 1 2 3 4 5 6 7 8 9 10 11 12" : Str), ("11 10 9 8 7 6 5 4 3 2 1 0" : Str), ("0 1, 1 0, 0 1" : Str)])) fun v4 =>
  ob (addL v4 ([("a" : Str), ("0 1 10" : Str), ("1 0, 0" : Str), ("0 1 2 3 4 5 6 7 8 9 10 11 12, 0 1 2 3 4 5 6 7 8 9 10 11 12" : Str)])) fun v5 =>
  R.bind (m__law_draw pool ((36 : Int))) fun v6 =>
  ob (atI v5 v6.1) fun v7 =>
  .ok ((v7, v6.2))
theorem sim__law_odd (pool : (List Int)) : FnS h__law_odd [bow (toD (pool : (List Int)))] (m__law_odd pool) (fun a : (Str × (List Int)) => .d (toD (a.1 : Str))) (fun a : (Str × (List Int)) => [(0, (.o (toD (a.2 : (List Int)))))]) :=
  fn_mk (n := 1) (rv := fun a : (Str × (List Int)) => .d (toD (a.1 : Str))) (ss := [(.o (toD (pool : (List Int))))]) (Γe := fun a : (Str × (List Int)) => [some (.o (toD (a.2 : (List Int)))), none]) rfl (.cons sl_o All2.nil) rfl
  (j_asg (j_lst (j_dcons (j_c (j_fz fz_b (j_dcons (j_c (j_fz fz_b (j_dcons (j_c (j_fz fz_b (j_dcons (j_c (j_fz fz_b (j_dcons (j_c (j_fz fz_b (j_dcons (j_c (j_fz fz_b (j_dcons (j_c (j_fz fz_b (j_dcons (j_c (j_fz fz_b (j_dcons (j_c (j_fz fz_b (j_dnil (j_lst2 (toD ([("" : Str), (" " : Str), ("-" : Str), ("--" : Str), ("- " : Str), ("," : Str), (", " : Str), ("0" : Str), ("1" : Str)] : (List Str))) rfl rfl (j_fzb (fzb_of fz_w) (j_setD (j_asg (j_bin (j_var rfl (j_lst (j_dcons (j_c (j_fz fz_b (j_dcons (j_c (j_fz fz_b (j_dcons (j_c (j_fz fz_b (j_dcons (j_c (j_fz fz_b (j_dcons (j_c (j_fz fz_b (j_dcons (j_c (j_fz fz_b (j_dcons (j_c (j_fz fz_b (j_dcons (j_c (j_fz fz_b (j_dcons (j_c (j_fz fz_b (j_dnil (j_lst2 (toD ([("0 0" : Str), ("1 0" : Str), ("01" : Str), ("0 01" : Str), ("0," : Str), ("0, 0" : Str), ("0,0" : Str), ("0,  0" : Str), ("0 1, 0" : Str)] : (List Str))) rfl rfl (j_opR (rd_d rfl) rd_w (x_addL (τ := Str)) fun v1 => (j_fzb (fzb_of fz_w) (j_setD (j_asg (j_bin (j_var rfl (j_lst (j_dcons (j_c (j_fz fz_b (j_dcons (j_c (j_fz fz_b (j_dcons (j_c (j_fz fz_b (j_dcons (j_c (j_fz fz_b (j_dcons (j_c (j_fz fz_b (j_dcons (j_c (j_fz fz_b (j_dnil (j_lst2 (toD ([("0, -" : Str), ("-, 0" : Str), ("0\n" : Str), ("0\t1" : Str), ("+0" : Str), ("0 1 3" : Str)] : (List Str))) rfl rfl (j_opR (rd_d rfl) rd_w (x_addL (τ := Str)) fun v2 => (j_fzb (fzb_of fz_w) (j_setD (j_asg (j_bin (j_var rfl (j_lst (j_dcons (j_c (j_fz fz_b (j_dcons (j_c (j_fz fz_b (j_dcons (j_c (j_fz fz_b (j_dcons (j_c (j_fz fz_b (j_dcons (j_c (j_fz fz_b (j_dnil (j_lst2 (toD ([("0 2" : Str), ("0.0" : Str), ("0 1 2 3 4 5 6 7 8 9 10 11" : Str), ("0 , 0" : Str), ("0, 0, 0 " : Str)] : (List Str))) rfl rfl (j_opR (rd_d rfl) rd_w (x_addL (τ := Str)) fun v3 => (j_fzb (fzb_of fz_w) (j_setD (j_asg (j_bin (j_var rfl (j_lst (j_dcons (j_c (j_fz fz_b (j_dcons (j_c (j_fz fz_b (j_dcons (j_c (j_fz fz_b (j_dnil (j_lst2 (toD ([("0 1 2 3 4 5 6 7 8 9 10 11 12" : Str), ("11 10 9 8 7 6 5 4 3 2 1 0" : Str), ("0 1, 1 0, 0 1" : Str)] : (List Str))) rfl rfl (j_opR (rd_d rfl) rd_w (x_addL (τ := Str)) fun v4 => (j_fzb (fzb_of fz_w) (j_setD (j_asg (j_bin (j_var rfl (j_lst (j_dcons (j_c (j_fz fz_b (j_dcons (j_c (j_fz fz_b (j_dcons (j_c (j_fz fz_b (j_dcons (j_c (j_fz fz_b (j_dnil (j_lst2 (toD ([("a" : Str), ("0 1 10" : Str), ("1 0, 0" : Str), ("0 1 2 3 4 5 6 7 8 9 10 11 12, 0 1 2 3 4 5 6 7 8 9 10 11 12" : Str)] : (List Str))) rfl rfl (j_opR (rd_d rfl) rd_w (x_addL (τ := Str)) fun v5 => (j_fzb (fzb_of fz_w) (j_setD (j_last (j_ret (j_bin (j_var rfl (j_call (j_aM rfl (j_aF (j_c (j_fzb (fzb_of fz_b) (j_anil (j_callF rfl (ba_o rfl (ba_b ba_nil)) (sim__law_draw pool ((36 : Int))) (fun _ => rfl) (fun _ => rfl) fun v6 => (j_opR (rd_d rfl) rd_b (x_ix (τ := Str)) fun v7 => (j_retb (l := [1, 0]) sl_d rfl rfl)))))))))))))))))))))))))))))))))))))))))))))))))))))))))))))))))))))))))))))))))))))))))))))))))))))))))))))))))))))))))))))))))))))))))))))))))))))))))))))))))))))))))))) (fun a p hp => by
    simp only [List.mem_cons, List.not_mem_nil, or_false] at hp
    subst hp; rfl)
def m__law_order (pool : (List Int)) (n : Int) : R (((List Int) × (List Int))) :=
  ob (lrg1 n) fun v1 =>
  ob (rg1 n) fun xs2 =>
  R.bind (lcS (fun (s8 : ((List Int) × (List Int))) (x3 : Int) => R.calm (R.bind (m__law_draw s8.1 ((s8.2.length : Int))) fun v9 =>
  ob (popI s8.2 v9.1) fun v10 =>
  .ok (some v10.1, (v9.2, v10.2)))) xs2 [] (pool, v1)) fun ys11 =>
  .ok ((ys11.1, ys11.2.1))
theorem sim__law_order (pool : (List Int)) (n : Int) : FnS h__law_order [bow (toD (pool : (List Int))), .fr (toD (n : Int))] (m__law_order pool n) (fun a : ((List Int) × (List Int)) => .o (toD (a.1 : (List Int)))) (fun a : ((List Int) × (List Int)) => [(0, (.o (toD (a.2 : (List Int)))))]) :=
  fn_mk (n := 2) (rv := fun a : ((List Int) × (List Int)) => .o (toD (a.1 : (List Int)))) (ss := [(.o (toD (pool : (List Int)))), (.d (toD (n : Int)))]) (Γe := fun a : ((List Int) × (List Int)) => [some (.o (toD (a.2 : (List Int)))), none, none, none]) rfl (.cons sl_o (.cons rfl All2.nil)) rfl
  (j_own (j_lr1 (j_var rfl (j_lr1op (rd_d rfl)  fun v1 => (j_ownb (j_setO (j_last (j_ret (j_lc (j_iRg1 (j_var rfl (j_rg1 (rd_d rfl) fun xs2 => (j_lcG (Γs := fun (s8 : ((List Int) × (List Int))) => [some (.o (toD (s8.1 : (List Int)))), some (.d (toD (n : Int))), some (.o (toD (s8.2 : (List Int)))), none]) (l := [1, 1, 1, 0]) (D := toD) (E := toD) (xr := fun a => toD a) (pool, v1) rfl (fun _ => rfl) (fun s8 x3 => (j_gN (j_tt (j_mth (j_chk rfl rfl (j_dcons (j_call (j_aM rfl (j_aF (j_cb (j_acons (j_var rfl (j_anil (j_cbop (ra_cons (rd_o rfl) ra_nil) (x_len (τ := Int)) (j_fzb (fzb_of fz_b) (j_anil (j_callF rfl (ba_o rfl (ba_b ba_nil)) (sim__law_draw s8.1 ((s8.2.length : Int))) (fun _ => rfl) (fun _ => rfl) fun v9 => (j_fz fz_b (j_dnil (j_mthopR (z := fun a => .fr (toD a.1)) (es := fun a => a.2.map toD) (y := fun a => toD a.2) rfl (x_popI (τ := Int)) (fun _ => rfl) fun v10 => (j_kf (l := [1, 1, 1, 0]) fz_b rfl rfl))))))))))))))))))))) (fun _ => rfl) fun ys11 => (j_retb (l := [1, 0, 0, 0]) sl_o rfl rfl)))))))))))))) (fun a p hp => by
    simp only [List.mem_cons, List.not_mem_nil, or_false] at hp
    subst hp; rfl)
def m__law_pool (script : (List Int)) (k : Int) : R ((List Int)) :=
  R.bind (if (decide (k < (script.length : Int))) = true then
  (ob (atI script k) fun v3 =>
  .ok v3)
  else
  (.ok ((0 : Int)))) fun (s2 : Int) =>
  .ok ([s2, (b2i ((decide (((10 : Int) ^ ((18 : Int)).toNat) ≤ s2)))), ((37 : Int) * k)])
theorem sim__law_pool (script : (List Int)) (k : Int) : FnS h__law_pool [.sc script, .fr (toD (k : Int))] (m__law_pool script k) (fun a : (List Int) => .o (toD (a : (List Int)))) (fun a : (List Int) => []) :=
  fn_mk (n := 1) (rv := fun a : (List Int) => .o (toD (a : (List Int)))) (ss := [.sc script, (.d (toD (k : Int)))]) (Γe := fun a : (List Int) => [none, none, none]) rfl (.cons rfl (.cons rfl All2.nil)) rfl
  (j_asg (j_c (j_fzb (fzb_of fz_b) (j_setD (j_seq (Γs := fun (s2 : Int) => [some (.sc script), some (.d (toD (k : Int))), some (.d (toD (s2 : Int)))]) (j_if1 (j_test (j_bin (j_var rfl (j_scLen (j_var rfl (j_scLen2  rfl (j_op (rd_d rfl) rd_b x_lt (j_bool rd_b (j_ite (j_last (j_asg (j_scIx (j_var rfl (j_var rfl (j_scIx2 rfl (rd_d rfl) fun v3 => (j_fzb (fzb_of fz_b) (j_setD (j_nil (l := [1, 1, 1]) rfl rfl))))))))) (j_nil (l := [1, 1, 1]) rfl rfl))))))))))) fun s2 => (j_last (j_ret (j_lst (j_dcons (j_var rfl (j_fz (fz_d rfl) (j_dcons (j_cb (j_acons (j_bin (j_var rfl (j_bin (j_c (j_c (j_op rd_b rd_b (x_pow (by decide)) (j_op (rd_d rfl) rd_b x_ge (j_anil (j_cbop (ra_cons rd_b ra_nil) x_intB (j_fz fz_b (j_dcons (j_bin (j_c (j_var rfl (j_op rd_b (rd_d rfl) (x_mul (cmul_l (by decide))) (j_fz fz_b (j_dnil (j_lst2 (toD ([s2, (b2i ((decide (((10 : Int) ^ ((18 : Int)).toNat) ≤ s2)))), ((37 : Int) * k)] : (List Int))) rfl rfl (j_retb (l := [0, 0, 0]) sl_o rfl rfl))))))))))))))))))))))))))))))))) (fun a p hp => nomatch hp)
def m__law_number (word : Str) : R ((Option Int)) :=
  R.bind (ob (lenS word) fun v13 =>
  if (!((decide ((1 : Int) ≤ v13)) && (decide (v13 ≤ (2 : Int))))) = true then
  (.ok true)
  else
  (R.bind (lcM (fun (x14 : Str) => R.calm (ob (notInS x14 (("0123456789" : Str))) fun v15 =>
  if v15 = true then
  (.ok (some x14))
  else
  (.ok none))) ((signs word)) []) fun ys16 =>
  ob (neG ys16 (([] : (List Str)))) fun v17 =>
  .ok v17)) fun b12 =>
  if b12 = true then
  (.ok ((none : (Option Int))))
  else
  (R.bind (ob (lenS word) fun v26 =>
  if (decide (v26 = (2 : Int))) = true then
  (ob (ixS word ((0 : Int))) fun v27 =>
  ob (eqG v27 (("0" : Str))) fun v28 =>
  .ok v28)
  else
  (.ok false)) fun b25 =>
  if b25 = true then
  (.ok ((none : (Option Int))))
  else
  (ob (intS word) fun v29 =>
  .ok ((some v29))))
theorem sim__law_number (word : Str) : FnS h__law_number [.fr (toD (word : Str))] (m__law_number word) (fun a : (Option Int) => .d (toD (a : (Option Int)))) (fun a : (Option Int) => []) :=
  fn_mk (n := 1) (rv := fun a : (Option Int) => .d (toD (a : (Option Int)))) (ss := [(.d (toD (word : Str)))]) (Γe := fun a : (Option Int) => [none, none]) rfl (.cons rfl All2.nil) rfl
  (j_if (j_sub (bv := fun b12 : Bool => b12) (Γ1 := fun b12 : Bool => [some (.d (toD (word : Str))), none]) (j_orC (j_not (j_test (j_chain (j_c (j_cb (j_acons (j_var rfl (j_anil (j_cbopR (ra_cons (rd_d rfl) ra_nil) x_lenS fun v13 => (j_chain3 rd_b rd_b x_le (j_c (j_ko (l := [1, 0]) rd_b rfl rfl)) x_le (j_bool rd_b (j_ite (j_kb (l := [1, 0]) rfl rfl) (j_test (j_bin (j_lc (j_iText (j_var rfl (j_it (fz_d rfl) (selS_signs _) (j_lcM (Γs := [some (.d (toD (word : Str))), none]) (l := [1, 0]) (D := toD) (E := toD) (xr := fun a => toD a) rfl rfl (fun x14 => (j_gN (j_test (j_bin (j_var rfl (j_c (j_opR (rd_d rfl) rd_b x_notInS fun v15 => (j_bool rd_b (j_ite (j_var rfl (j_kf (l := [1, 0]) (fz_d rfl) rfl rfl)) (j_skip (l := [1, 0]) rfl rfl)))))))))) (fun _ => rfl) fun ys16 => (j_lst (j_dnil (j_lst2 (toD (([] : (List Str)) : (List Str))) rfl rfl (j_opR rd_w rd_w (x_neG (τ := (List Str))) fun v17 => (j_bool rd_b (j_kb (l := [1, 0]) rfl rfl)))))))))))))))))))))))))) fun b12 => (j_ite (j_ret (j_c (j_retb (l := [0, 0]) sl_d rfl rfl))) (j_seqNil (j_if (j_sub (bv := fun b25 : Bool => b25) (Γ1 := fun b25 : Bool => [some (.d (toD (word : Str))), none]) (j_andC (j_test (j_bin (j_cb (j_acons (j_var rfl (j_anil (j_cbopR (ra_cons (rd_d rfl) ra_nil) x_lenS fun v26 => (j_c (j_op rd_b rd_b (x_eq (τ := Int)) (j_bool rd_b (j_ite (j_test (j_bin (j_bin (j_var rfl (j_c (j_opR (rd_d rfl) rd_b x_ixS fun v27 => (j_c (j_opR rd_b rd_b (x_eqG (τ := Str)) fun v28 => (j_bool rd_b (j_kb (l := [1, 0]) rfl rfl)))))))))) (j_kb (l := [1, 0]) rfl rfl))))))))))))) fun b25 => (j_ite (j_ret (j_c (j_retb (l := [0, 0]) sl_d rfl rfl))) (j_seqNil (j_last (j_ret (j_cb (j_acons (j_var rfl (j_anil (j_cbopR (ra_cons (rd_d rfl) ra_nil) x_intS fun v29 => (j_retb (l := [0, 0]) sl_d rfl rfl)))))))))))))))) (fun a p hp => nomatch hp)
def y__law_read (text : Str) : R PyData :=
  ob (splitS text ((" " : Str))) fun v1 =>
  R.bind (lcM (fun (x2 : Str) => R.calm (R.bind (m__law_number x2) fun v3 =>
  .ok (some v3))) v1 []) fun ys4 =>
  R.bind (ob (asLY ((toD (ys4 : (List (Option Int)))))) fun v25 =>
  ob (inY ((toD (() : Unit))) v25) fun v27 =>
  if v27 = true then
  (.ok true)
  else
  (ob (asLI ((toD (ys4 : (List (Option Int)))))) fun v28 =>
  ob (lenY ((toD (ys4 : (List (Option Int)))))) fun v30 =>
  ob (lrg1 v30) fun v31 =>
  if (!decide ((v28.mergeSort leI) = v31)) = true then
  (.ok true)
  else
  (ob (lenY ((toD (ys4 : (List (Option Int)))))) fun v32 =>
  .ok ((decide ((12 : Int) < v32)))))) fun b24 =>
  if b24 = true then
  (.ok ((toD (() : Unit))))
  else
  (.ok ((toD (ys4 : (List (Option Int))))))
theorem simy__law_read (text : Str) : FnS h__law_read [.fr (toD (text : Str))] (y__law_read text) (fun a : PyData => .d a) (fun a : PyData => []) :=
  fn_mk (n := 2) (rv := fun a : PyData => .d a) (ss := [(.d (toD (text : Str)))]) (Γe := fun a : PyData => [none, none, none]) rfl (.cons rfl All2.nil) rfl
  (j_own (j_lc (j_iSeq (j_m1 (j_var rfl (j_str (rd_d rfl) (j_c (j_unopR (z := fun a => bow (toD a)) rd_b x_split fun v1 => (j_it fz_w rfl (j_lcM (Γs := [some (.d (toD (text : Str))), none, none]) (l := [1, 0, 0]) (D := toD) (E := toD) (xr := fun a => toD a) rfl rfl (fun x2 => (j_gN (j_tt (j_callP (j_aP (j_var rfl (j_aPs (j_anil (j_callPop rfl (la_d rfl la_nil) rfl (sim__law_number x2) (fun _ => (flat_oi _)) fun v3 => (j_kf (l := [1, 0, 0]) fz_b rfl rfl)))))))))) (fun _ => rfl) fun ys4 => (j_ownb (j_setO (j_if (j_sub (bv := fun b24 : Bool => b24) (Γ1 := fun b24 : Bool => [some (.d (toD (text : Str))), some (.o (toD (ys4 : (List (Option Int))))), none]) (j_orC (j_test (j_bin (j_c (j_var rfl (c_asLY fun v25 h26 => (j_opR rd_b (rd_eq h26 (rd_o rfl)) x_inY fun v27 => (j_bool rd_b (j_ite (j_kb (l := [1, 1, 0]) rfl rfl) (j_orC (j_test (j_bin (j_cb (j_acons (j_var rfl (j_anil (c_asLI fun v28 h29 => (j_cbop (ra_cons (rd_eq h29 (rd_o rfl)) ra_nil) x_sorted (j_lr1 (j_cb (j_acons (j_var rfl (j_anil (j_cbopR (z := fun a => .fr (toD a)) (ra_cons (rd_o rfl) ra_nil) x_lenY fun v30 => (j_lr1op rd_b  fun v31 => (j_op rd_w rd_w (x_ne (τ := (List Int))) (j_bool rd_b (j_ite (j_kb (l := [1, 1, 0]) rfl rfl) (j_test (j_bin (j_cb (j_acons (j_var rfl (j_anil (j_cbopR (z := fun a => .fr (toD a)) (ra_cons (rd_o rfl) ra_nil) x_lenY fun v32 => (j_c (j_op rd_b rd_b x_gt (j_bool rd_b (j_kb (l := [1, 1, 0]) rfl rfl))))))))))))))))))))))))))))))))))))))) fun b24 => (j_ite (j_ret (j_c (j_retb (l := [0, 0, 0]) sl_d rfl rfl))) (j_seqNil (j_last (j_ret (j_var rfl (j_rets (l := [0, 0, 0]) rfl (fun _ => sl_weak) rfl rfl)))))))))))))))))))) (fun a p hp => nomatch hp)
def y__law_read_list (text : Str) : R PyData :=
  ob (eqG text (("-" : Str))) fun v1 =>
  if v1 = true then
  (.ok ((toD (([] : (List Int)) : (List Int)))))
  else
  (ob (splitS text ((", " : Str))) fun v2 =>
  R.bind (lcM (fun (x3 : Str) => R.calm (R.bind (y__law_read x3) fun v4 =>
  .ok (some v4))) v2 []) fun ys6 =>
  R.bind (ob (inY ((toD (() : Unit))) ys6) fun v25 =>
  if v25 = true then
  (.ok (true, ys6))
  else
  (R.bind (lcM (fun (x26 : PyData) => R.calm (ob (lenY x26) fun v27 =>
  ob (atI ys6 ((0 : Int))) fun v28 =>
  ob (lenY v28) fun v30 =>
  if (!decide (v27 = v30)) = true then
  (.ok (some x26))
  else
  (.ok none))) ys6 []) fun ys31 =>
  ob (neY ((PyData.list ((ys31 : List PyData).map idD))) ((PyData.list ((([] : (List PyData)) : List PyData).map idD)))) fun v32 =>
  .ok (v32, ys6))) fun b24 =>
  if b24.1 = true then
  (.ok ((toD (() : Unit))))
  else
  (.ok ((PyData.list ((b24.2 : List PyData).map idD)))))
theorem simy__law_read_list (text : Str) : FnS h__law_read_list [.fr (toD (text : Str))] (y__law_read_list text) (fun a : PyData => .d a) (fun a : PyData => []) :=
  fn_mk (n := 3) (rv := fun a : PyData => .d a) (ss := [(.d (toD (text : Str)))]) (Γe := fun a : PyData => [none, none, none, none]) rfl (.cons rfl All2.nil) rfl
  (j_if (j_test (j_bin (j_var rfl (j_c (j_opR (rd_d rfl) rd_b (x_eqG (τ := Str)) fun v1 => (j_bool rd_b (j_ite (j_ret (j_lst (j_dnil (j_lst2 (toD (([] : (List Int)) : (List Int))) rfl rfl (j_retb (l := [0, 0, 0, 0]) sl_w rfl rfl))))) (j_seqNil (j_own (j_lc (j_iSeq (j_m1 (j_var rfl (j_str (rd_d rfl) (j_c (j_unopR (z := fun a => bow (toD a)) rd_b x_split fun v2 => (j_it fz_w rfl (j_lcM (Γs := [some (.d (toD (text : Str))), none, none, none]) (l := [1, 0, 0, 0]) (D := toD) (E := idD) (xr := fun a => PyData.list (a.map idD)) rfl rfl (fun x3 => (j_gN (j_tt (j_call (j_aF (j_var rfl (j_fzb (fzb_of (fz_d rfl)) (j_anil (j_callD rfl (ba_b ba_nil) (simy__law_read x3) (fun _ => rfl) fun v4 bh5 h5 => (j_kf (l := [1, 0, 0, 0]) (fz_any h5) rfl rfl)))))))))) (fun _ => rfl) fun ys6 => (j_ownb (j_setO (j_if (j_sub (bv := fun b24 : (Bool × (List PyData)) => b24.1) (Γ1 := fun b24 : (Bool × (List PyData)) => [some (.d (toD (text : Str))), some (.d (PyData.list ((b24.2 : List PyData).map idD))), none, none]) (j_orC (j_test (j_bin (j_c (j_var rfl (j_opR rd_b (rd_o rfl) x_inY fun v25 => (j_bool rd_b (j_ite (j_kb (l := [1, 2, 0, 0]) rfl rfl) (j_test (j_bin (j_lc (j_iSeq (j_var rfl (j_it (fz_o rfl) rfl (j_lcM (Γs := [some (.d (toD (text : Str))), some (.d (PyData.list ((ys6 : List PyData).map idD))), none, none]) (l := [1, 1, 0, 0]) (D := idD) (E := idD) (xr := fun a => PyData.list (a.map idD)) rfl rfl (fun x26 => (j_gN (j_test (j_bin (j_cb (j_acons (j_var rfl (j_anil (j_cbopR (z := fun a => .fr (toD a)) (ra_cons (rd_d rfl) ra_nil) x_lenY fun v27 => (j_cb (j_acons (j_bin (j_var rfl (j_c (j_opR (rd_d rfl) rd_b x_ixY fun v28 => (j_anil (j_cbopR (z := fun a => .fr (toD a)) (ra_cons rd_b ra_nil) x_lenY fun v30 => (j_op rd_b rd_b (x_ne (τ := Int)) (j_bool rd_b (j_ite (j_var rfl (j_kf (l := [1, 1, 0, 0]) (fz_d rfl) rfl rfl)) (j_skip (l := [1, 1, 0, 0]) rfl rfl))))))))))))))))))))) (fun _ => rfl) fun ys31 => (j_lst (j_dnil (j_lst2 (PyData.list ((([] : (List PyData)) : List PyData).map idD)) rfl rfl (j_opR rd_w rd_w x_neY fun v32 => (j_bool rd_b (j_kb (l := [1, 1, 0, 0]) rfl rfl))))))))))))))))))))) fun b24 => (j_ite (j_ret (j_c (j_retb (l := [0, 0, 0, 0]) sl_d rfl rfl))) (j_seqNil (j_last (j_ret (j_var rfl (j_rets (l := [0, 0, 0, 0]) rfl (fun _ => sl_id) rfl rfl))))))))))))))))))))))))))))) (fun a p hp => nomatch hp)
def m__law_texts_right (text : Str) : R Bool :=
  R.bind (y__law_read text) fun v1 =>
  R.bind (y__law_asked (("read" : Str)) ((toD (text : Str)))) fun v3 =>
  ob (atI ([("told" : Str), ("NoText" : Str)]) ((b2i ((isNone v1))))) fun v4 =>
  ob (neY ((PyData.tuple [(toD (v3.1 : Str)), v3.2])) ((PyData.tuple [(toD (((v4, v1)).1 : Str)), ((v4, v1)).2]))) fun v5 =>
  if v5 = true then
  (.ok false)
  else
  (R.bind (y__law_read_list text) fun v6 =>
  R.bind (y__law_asked (("reads" : Str)) ((toD (text : Str)))) fun v8 =>
  ob (atI ([("told" : Str), ("NoText" : Str)]) ((b2i ((isNone v6))))) fun v9 =>
  ob (eqY ((PyData.tuple [(toD (v8.1 : Str)), v8.2])) ((PyData.tuple [(toD (((v9, v6)).1 : Str)), ((v9, v6)).2]))) fun v10 =>
  .ok v10)
theorem sim__law_texts_right (text : Str) : FnS h__law_texts_right [.fr (toD (text : Str))] (m__law_texts_right text) (fun a : Bool => .d (toD (a : Bool))) (fun a : Bool => []) :=
  fn_mk (n := 1) (rv := fun a : Bool => .d (toD (a : Bool))) (ss := [(.d (toD (text : Str)))]) (Γe := fun a : Bool => [none, none]) rfl (.cons rfl All2.nil) rfl
  (j_asg (j_call (j_aF (j_var rfl (j_fzb (fzb_of (fz_d rfl)) (j_anil (j_callD rfl (ba_b ba_nil) (simy__law_read text) (fun _ => rfl) fun v1 bh2 h2 => (j_fzb (fzb_of (fz_any h2)) (j_setD (j_if (j_test (j_bin (j_call (j_aF (j_c (j_fzb (fzb_of fz_b) (j_aF (j_var rfl (j_fzb (fzb_of (fz_d rfl)) (j_anil (j_callF rfl (ba_b (ba_b ba_nil)) (simy__law_asked (("read" : Str)) ((toD (text : Str)))) (fun _ => rfl) (fun _ => rfl) fun v3 => (j_tup (j_dcons (j_bin (j_lst (j_dcons (j_c (j_fz fz_b (j_dcons (j_c (j_fz fz_b (j_dnil (j_lst2 (toD ([("told" : Str), ("NoText" : Str)] : (List Str))) rfl rfl (j_cb (j_acons (j_bin (j_var rfl (j_c (j_op (rd_d rfl) rd_b x_isNY (j_anil (j_cbop (ra_cons rd_b ra_nil) x_intB (j_opR rd_w rd_b (x_ix (τ := Str)) fun v4 => (j_fz fz_b (j_dcons (j_var rfl (j_fz (fz_d rfl) (j_dnil (j_tup2 (PyData.tuple [(toD (((v4, v1)).1 : Str)), ((v4, v1)).2]) rfl rfl (j_opR rd_b rd_b x_neY fun v5 => (j_bool rd_b (j_ite (j_ret (j_c (j_retb (l := [0, 0]) sl_d rfl rfl))) (j_seqNil (j_asg (j_call (j_aF (j_var rfl (j_fzb (fzb_of (fz_d rfl)) (j_anil (j_callD rfl (ba_b ba_nil) (simy__law_read_list text) (fun _ => rfl) fun v6 bh7 h7 => (j_fzb (fzb_of (fz_any h7)) (j_setD (j_last (j_ret (j_bin (j_call (j_aF (j_c (j_fzb (fzb_of fz_b) (j_aF (j_var rfl (j_fzb (fzb_of (fz_d rfl)) (j_anil (j_callF rfl (ba_b (ba_b ba_nil)) (simy__law_asked (("reads" : Str)) ((toD (text : Str)))) (fun _ => rfl) (fun _ => rfl) fun v8 => (j_tup (j_dcons (j_bin (j_lst (j_dcons (j_c (j_fz fz_b (j_dcons (j_c (j_fz fz_b (j_dnil (j_lst2 (toD ([("told" : Str), ("NoText" : Str)] : (List Str))) rfl rfl (j_cb (j_acons (j_bin (j_var rfl (j_c (j_op (rd_d rfl) rd_b x_isNY (j_anil (j_cbop (ra_cons rd_b ra_nil) x_intB (j_opR rd_w rd_b (x_ix (τ := Str)) fun v9 => (j_fz fz_b (j_dcons (j_var rfl (j_fz (fz_d rfl) (j_dnil (j_tup2 (PyData.tuple [(toD (((v9, v6)).1 : Str)), ((v9, v6)).2]) rfl rfl (j_opR rd_b rd_b x_eqY fun v10 => (j_retb (l := [0, 0]) sl_d rfl rfl)))))))))))))))))))))))))))))))))))))))))))))))))))))))))))))))))))))))))))))))))))))))))))))))))))))) (fun a p hp => nomatch hp)
def m_law (script : (List Int)) : R Bool :=
  R.bind (ob (rg1 ((max2 ((1 : Int)) ((min2 ((12 : Int)) ((script.length : Int))))))) fun xs1 =>
  loopM (fun (s143 : Unit) (x144 : Int) =>
  R.bind (m__law_pool script x144) fun v145 =>
  R.bind (m__law_draw v145 ((12 : Int))) fun v146 =>
  ob (fdivI ((480 : Int)) ((((2 : Int) * ((1 : Int) + v146.1)) + (3 : Int)))) fun v147 =>
  ob (atI ([(5 : Int), (min2 ((120 : Int)) v147)]) ((b2i ((decide (x144 = (0 : Int))))))) fun v148 =>
  R.bind (m__law_draw v146.2 v148) fun v149 =>
  ob (rg1 (((1 : Int) + v149.1))) fun xs150 =>
  R.bind (lcS (fun (s154 : (List Int)) (x151 : Int) => R.calm (R.bind (m__law_order s154 (((1 : Int) + v146.1))) fun v155 =>
  .ok (some v155.1, v155.2))) xs150 [] v149.2) fun ys156 =>
  R.bind (R.bind (m__law_draw ys156.2 ((6 : Int))) fun v165 =>
  if (decide (v165.1 = (0 : Int))) = true then
  (R.bind (m__law_draw v165.2 ((12 : Int))) fun v166 =>
  R.bind (m__law_order v166.2 (((1 : Int) + v166.1))) fun v167 =>
  R.bind (m__law_draw v167.2 ((ys156.1.length : Int))) fun v168 =>
  R.bind (m__law_draw v168.2 ((2 : Int))) fun v169 =>
  ob (atI ([v168.1, (-(1 : Int))]) v169.1) fun v170 =>
  ob (setI ys156.1 v170 v167.1) fun v171 =>
  .ok ((v169.2, v171)))
  else
  (.ok ((v165.2, ys156.1)))) fun (s164 : ((List Int) × (List (List Int)))) =>
  R.bind (ob (atI s164.2 ((0 : Int))) fun v172 =>
  R.bind (m__law_written v172) fun v173 =>
  R.bind (m__law_list_written s164.2) fun v174 =>
  loopM (fun (s233 : (List Int)) (x234 : Str) =>
  R.bind (m__law_texts_right x234) fun v235 =>
  if (!v235) = true then
  (.ok (.rt false))
  else
  (R.bind (ob (rg1 ((4 : Int))) fun xs236 =>
  loopM (fun (s253 : (List Int)) (x254 : Int) =>
  R.bind (m__law_changed s253 x234) fun v255 =>
  R.bind (R.bind (m__law_draw v255.2 ((4 : Int))) fun v259 =>
  if (decide (v259.1 = (0 : Int))) = true then
  (R.bind (m__law_changed v259.2 v255.1) fun v260 =>
  .ok ((v260.2, v260.1)))
  else
  (.ok ((v259.2, v255.1)))) fun (s258 : ((List Int) × Str)) =>
  ob (slS s258.2 none (some (500 : Int))) fun v261 =>
  R.bind (m__law_texts_right v261) fun v262 =>
  if (!v262) = true then
  (.ok (.rt false))
  else
  (.ok (.nx s258.1))) xs236 s233) (Fl.outF fun (s263 : (List Int)) =>
  .ok (.nx s263)))) ([v173, v174]) s164.1) (Fl.outF fun (s264 : (List Int)) =>
  R.bind (m__law_odd s264) fun v265 =>
  R.bind (m__law_texts_right v265.1) fun v266 =>
  if (!v266) = true then
  (.ok (.rt false))
  else
  (ob (atI s164.2 ((0 : Int))) fun v267 =>
  R.bind (m__law_draw v265.2 ((12 : Int))) fun v268 =>
  ob (atI ([(toD (() : Unit)), (toD ((0 : Int) : Int)), (toD ((1 : Int) : Int)), (toD (true : Bool)), (toD ([(0 : Int)] : (List Int))), (toD ([("0" : Str)] : (List Str))), (toD (((0 : Int), (1 : Int)) : (Int × Int))), (dD (([] : (List (Int × Int))) : (List (Int × Int)))), (toD ([[(0 : Int)]] : (List (List Int)))), (toD (s164.2 : (List (List Int)))), (toD (v267 : (List Int))), (PyData.tuple [])]) v268.1) fun v269 =>
  R.bind (R.bind (y__law_asked (("read" : Str)) v269) fun v282 =>
  ob (neY ((PyData.tuple [(toD (v282.1 : Str)), v282.2])) ((toD ((("NoText" : Str), ()) : (Str × Unit))))) fun v283 =>
  if v283 = true then
  (.ok true)
  else
  (R.bind (y__law_asked (("reads" : Str)) v269) fun v284 =>
  ob (neY ((PyData.tuple [(toD (v284.1 : Str)), v284.2])) ((toD ((("NoText" : Str), ()) : (Str × Unit))))) fun v285 =>
  .ok v285)) fun b281 =>
  if b281 = true then
  (.ok (.rt false))
  else
  (.ok (.nx ()))))) xs1 (())) (Fl.out fun (s286 : Unit) =>
  .ok true)
theorem sim_law (script : (List Int)) : FnS h_law [.sc script] (m_law script) (fun a : Bool => .d (toD (a : Bool))) (fun a : Bool => []) :=
  fn_mk (n := 10) (rv := fun a : Bool => .d (toD (a : Bool))) (ss := [.sc script]) (Γe := fun a : Bool => [none, none, none, none, none, none, none, none, none, none, none]) rfl (.cons rfl All2.nil) rfl
  (j_re (Γ' := [some (.sc script), none, none, none, none, none, none, none, none, none, none]) rfl (j_seqF (Γs := fun (s143 : Unit) => [some (.sc script), none, none, none, none, none, none, none, none, none, none]) (fun _ => rfl) (j_sFor (j_iRg1 (j_cb (j_acons (j_c (j_acons (j_cb (j_acons (j_c (j_acons (j_scLen (j_var rfl (j_scLen2  rfl (j_anil (j_cbop (ra_cons rd_b (ra_cons rd_b ra_nil)) x_min2 (j_anil (j_cbop (ra_cons rd_b (ra_cons rd_b ra_nil)) x_max2 (j_rg1 rd_b fun xs1 => (j_loop (l := [1, 0, 0, 0, 0, 0, 0, 0, 0, 0, 0]) (D := toD) (Γs := fun (s143 : Unit) => [some (.sc script), none, none, none, none, none, none, none, none, none, none]) (()) rfl (fun _ => ⟨_, _, rfl⟩) (fun _ => rfl) fun s143 x144 => (j_gN (j_re (Γ' := [some (.sc script), some (.d (toD (x144 : Int))), none, none, none, none, none, none, none, none, none]) rfl (j_own (j_call (j_aF (j_var rfl (j_fzb (fzb_sc rfl) (j_aF (j_var rfl (j_fzb (fzb_of (fz_d rfl)) (j_anil (j_callO rfl (ba_b (ba_b ba_nil)) (sim__law_pool script x144) (fun _ => rfl) fun v145 => (j_ownb (j_setO (j_re (Γ' := [some (.sc script), some (.d (toD (x144 : Int))), some (.o (toD (v145 : (List Int)))), none, none, none, none, none, none, none, none]) rfl (j_asg (j_bin (j_c (j_call (j_aM rfl (j_aF (j_c (j_fzb (fzb_of fz_b) (j_anil (j_callF rfl (ba_o rfl (ba_b ba_nil)) (sim__law_draw v145 ((12 : Int))) (fun _ => rfl) (fun _ => rfl) fun v146 => (j_op rd_b rd_b x_add (j_fzb (fzb_of fz_b) (j_setD (j_re (Γ' := [some (.sc script), some (.d (toD (x144 : Int))), some (.o (toD (v146.2 : (List Int)))), some (.d (toD (((1 : Int) + v146.1) : Int))), none, none, none, none, none, none, none]) rfl (j_asg (j_bin (j_lst (j_dcons (j_c (j_fz fz_b (j_dcons (j_cb (j_acons (j_c (j_acons (j_bin (j_c (j_bin (j_bin (j_c (j_var rfl (j_op rd_b (rd_d rfl) (x_mul (cmul_l (by decide))) (j_c (j_op rd_b rd_b x_add (j_opR rd_b rd_b x_fdivR fun v147 => (j_anil (j_cbop (ra_cons rd_b (ra_cons rd_b ra_nil)) x_min2 (j_fz fz_b (j_dnil (j_lst2 (toD ([(5 : Int), (min2 ((120 : Int)) v147)] : (List Int))) rfl rfl (j_cb (j_acons (j_bin (j_var rfl (j_c (j_op (rd_d rfl) rd_b (x_eq (τ := Int)) (j_anil (j_cbop (ra_cons rd_b ra_nil) x_intB (j_opR rd_w rd_b (x_ix (τ := Int)) fun v148 => (j_fzb (fzb_of fz_b) (j_setD (j_re (Γ' := [some (.sc script), some (.d (toD (x144 : Int))), some (.o (toD (v146.2 : (List Int)))), some (.d (toD (((1 : Int) + v146.1) : Int))), some (.d (toD (v148 : Int))), none, none, none, none, none, none]) rfl (j_own (j_lc (j_iRg1 (j_bin (j_c (j_call (j_aM rfl (j_aF (j_var rfl (j_fzb (fzb_of (fz_d rfl)) (j_anil (j_callF rfl (ba_o rfl (ba_b ba_nil)) (sim__law_draw v146.2 v148) (fun _ => rfl) (fun _ => rfl) fun v149 => (j_op rd_b rd_b x_add (j_rg1 rd_b fun xs150 => (j_lcG (Γs := fun (s154 : (List Int)) => [some (.sc script), some (.d (toD (x144 : Int))), some (.o (toD (s154 : (List Int)))), some (.d (toD (((1 : Int) + v146.1) : Int))), some (.d (toD (v148 : Int))), none, none, none, none, none, none]) (l := [1, 1, 1, 1, 1, 0, 0, 0, 0, 0, 0]) (D := toD) (E := toD) (xr := fun a => toD a) v149.2 rfl (fun _ => rfl) (fun s154 x151 => (j_gN (j_tt (j_call (j_aM rfl (j_aF (j_var rfl (j_fzb (fzb_of (fz_d rfl)) (j_anil (j_callO rfl (ba_o rfl (ba_b ba_nil)) (sim__law_order s154 (((1 : Int) + v146.1))) (fun _ => rfl) fun v155 => (j_kf (l := [1, 1, 1, 1, 1, 0, 0, 0, 0, 0, 0]) fz_w rfl rfl))))))))))) (fun _ => rfl) fun ys156 => (j_ownb (j_setO (j_re (Γ' := [some (.sc script), some (.d (toD (x144 : Int))), some (.o (toD (ys156.2 : (List Int)))), some (.d (toD (((1 : Int) + v146.1) : Int))), some (.d (toD (v148 : Int))), some (.o (toD (ys156.1 : (List (List Int))))), none, none, none, none, none]) rfl (j_seq (Γs := fun (s164 : ((List Int) × (List (List Int)))) => [some (.sc script), some (.d (toD (x144 : Int))), some (.o (toD (s164.1 : (List Int)))), some (.d (toD (((1 : Int) + v146.1) : Int))), some (.d (toD (v148 : Int))), some (.o (toD (s164.2 : (List (List Int))))), none, none, none, none, none]) (j_if1 (j_test (j_bin (j_call (j_aM rfl (j_aF (j_c (j_fzb (fzb_of fz_b) (j_anil (j_callF rfl (ba_o rfl (ba_b ba_nil)) (sim__law_draw ys156.2 ((6 : Int))) (fun _ => rfl) (fun _ => rfl) fun v165 => (j_c (j_op rd_b rd_b (x_eq (τ := Int)) (j_bool rd_b (j_ite (j_last (j_re (Γ' := [some (.sc script), some (.d (toD (x144 : Int))), some (.o (toD (v165.2 : (List Int)))), some (.d (toD (((1 : Int) + v146.1) : Int))), some (.d (toD (v148 : Int))), some (.o (toD (ys156.1 : (List (List Int))))), none, none, none, none, none]) rfl (j_put (j_call (j_aM rfl (j_aF (j_bin (j_c (j_call (j_aM rfl (j_aF (j_c (j_fzb (fzb_of fz_b) (j_anil (j_callF rfl (ba_o rfl (ba_b ba_nil)) (sim__law_draw v165.2 ((12 : Int))) (fun _ => rfl) (fun _ => rfl) fun v166 => (j_op rd_b rd_b x_add (j_fzb (fzb_of fz_b) (j_anil (j_callO rfl (ba_o rfl (ba_b ba_nil)) (sim__law_order v166.2 (((1 : Int) + v166.1))) (fun _ => rfl) fun v167 => (j_fz fz_w (j_has rfl (j_bin (j_lst (j_dcons (j_call (j_aM rfl (j_aF (j_cb (j_acons (j_var rfl (j_anil (j_cbop (ra_cons (rd_o rfl) ra_nil) (x_len (τ := (List Int))) (j_fzb (fzb_of fz_b) (j_anil (j_callF rfl (ba_o rfl (ba_b ba_nil)) (sim__law_draw v167.2 ((ys156.1.length : Int))) (fun _ => rfl) (fun _ => rfl) fun v168 => (j_fz fz_b (j_dcons (j_un (j_c (j_unop rd_b x_neg (j_fz fz_b (j_dnil (j_lst2 (toD ([v168.1, (-(1 : Int))] : (List Int))) rfl rfl (j_call (j_aM rfl (j_aF (j_c (j_fzb (fzb_of fz_b) (j_anil (j_callF rfl (ba_o rfl (ba_b ba_nil)) (sim__law_draw v168.2 ((2 : Int))) (fun _ => rfl) (fun _ => rfl) fun v169 => (j_opR rd_w rd_b (x_ix (τ := Int)) fun v170 => (j_putI (y := fun a => toD a) rfl rd_b (x_set (τ := (List Int)) _) fun v171 => (j_nil (l := [1, 1, 1, 1, 1, 1, 0, 0, 0, 0, 0]) rfl rfl))))))))))))))))))))))))))))))))))))))))))))))))))))) (j_nil (l := [1, 1, 1, 1, 1, 1, 0, 0, 0, 0, 0]) rfl rfl))))))))))))))) fun s164 => (j_re (Γ' := [some (.sc script), some (.d (toD (x144 : Int))), some (.o (toD (s164.1 : (List Int)))), some (.d (toD (((1 : Int) + v146.1) : Int))), some (.d (toD (v148 : Int))), some (.o (toD (s164.2 : (List (List Int))))), none, none, none, none, none]) rfl (j_seqFF (Γs := fun (s233 : (List Int)) => [some (.sc script), some (.d (toD (x144 : Int))), some (.o (toD (s233 : (List Int)))), some (.d (toD (((1 : Int) + v146.1) : Int))), some (.d (toD (v148 : Int))), some (.o (toD (s164.2 : (List (List Int))))), none, none, none, none, none]) (fun _ => rfl) (j_sFor (j_iSeq (j_lst (j_dcons (j_callP (j_aP (j_bin (j_var rfl (j_c (j_opR (rd_o rfl) rd_b (x_ix (τ := (List Int))) fun v172 => (j_aPb (j_anil (j_callPop rfl (la_b la_nil) rfl (sim__law_written v172) (fun _ => rfl) fun v173 => (j_fz fz_b (j_dcons (j_callP (j_aP (j_var rfl (j_aPs (j_anil (j_callPop rfl (la_o rfl la_nil) rfl (sim__law_list_written s164.2) (fun _ => rfl) fun v174 => (j_fz fz_b (j_dnil (j_lst2 (toD ([v173, v174] : (List Str))) rfl rfl (j_it fz_w rfl (j_loop (l := [1, 1, 1, 1, 1, 1, 0, 0, 0, 0, 0]) (D := toD) (Γs := fun (s233 : (List Int)) => [some (.sc script), some (.d (toD (x144 : Int))), some (.o (toD (s233 : (List Int)))), some (.d (toD (((1 : Int) + v146.1) : Int))), some (.d (toD (v148 : Int))), some (.o (toD (s164.2 : (List (List Int))))), none, none, none, none, none]) s164.1 rfl (fun _ => ⟨_, _, rfl⟩) (fun _ => rfl) fun s233 x234 => (j_gN (j_re (Γ' := [some (.sc script), some (.d (toD (x144 : Int))), some (.o (toD (s233 : (List Int)))), some (.d (toD (((1 : Int) + v146.1) : Int))), some (.d (toD (v148 : Int))), some (.o (toD (s164.2 : (List (List Int))))), some (.d (toD (x234 : Str))), none, none, none, none]) rfl (j_if (j_not (j_test (j_callP (j_aP (j_var rfl (j_aPs (j_anil (j_callPop rfl (la_d rfl la_nil) rfl (sim__law_texts_right x234) (fun _ => rfl) fun v235 => (j_bool rd_b (j_ite (j_re (Γ' := [some (.sc script), some (.d (toD (x144 : Int))), some (.o (toD (s233 : (List Int)))), some (.d (toD (((1 : Int) + v146.1) : Int))), some (.d (toD (v148 : Int))), some (.o (toD (s164.2 : (List (List Int))))), some (.d (toD (x234 : Str))), none, none, none, none]) rfl (j_ret (j_c (j_retb (l := [0, 0, 0, 0, 0, 0, 0, 0, 0, 0, 0]) sl_d rfl rfl)))) (j_seqNil (j_last (j_re (Γ' := [some (.sc script), some (.d (toD (x144 : Int))), some (.o (toD (s233 : (List Int)))), some (.d (toD (((1 : Int) + v146.1) : Int))), some (.d (toD (v148 : Int))), some (.o (toD (s164.2 : (List (List Int))))), some (.d (toD (x234 : Str))), none, none, none, none]) rfl (j_seqFF (Γs := fun (s253 : (List Int)) => [some (.sc script), some (.d (toD (x144 : Int))), some (.o (toD (s253 : (List Int)))), some (.d (toD (((1 : Int) + v146.1) : Int))), some (.d (toD (v148 : Int))), some (.o (toD (s164.2 : (List (List Int))))), some (.d (toD (x234 : Str))), none, none, none, none]) (fun _ => rfl) (j_sFor (j_iRg1 (j_c (j_rg1 rd_b fun xs236 => (j_loop (l := [1, 1, 1, 1, 1, 1, 1, 0, 0, 0, 0]) (D := toD) (Γs := fun (s253 : (List Int)) => [some (.sc script), some (.d (toD (x144 : Int))), some (.o (toD (s253 : (List Int)))), some (.d (toD (((1 : Int) + v146.1) : Int))), some (.d (toD (v148 : Int))), some (.o (toD (s164.2 : (List (List Int))))), some (.d (toD (x234 : Str))), none, none, none, none]) s233 rfl (fun _ => ⟨_, _, rfl⟩) (fun _ => rfl) fun s253 x254 => (j_gN (j_re (Γ' := [some (.sc script), some (.d (toD (x144 : Int))), some (.o (toD (s253 : (List Int)))), some (.d (toD (((1 : Int) + v146.1) : Int))), some (.d (toD (v148 : Int))), some (.o (toD (s164.2 : (List (List Int))))), some (.d (toD (x234 : Str))), some (.d (toD (x254 : Int))), none, none, none]) rfl (j_asg (j_call (j_aM rfl (j_aF (j_var rfl (j_fzb (fzb_of (fz_d rfl)) (j_anil (j_callF rfl (ba_o rfl (ba_b ba_nil)) (sim__law_changed s253 x234) (fun _ => rfl) (fun _ => rfl) fun v255 => (j_fzb (fzb_of fz_b) (j_setD (j_re (Γ' := [some (.sc script), some (.d (toD (x144 : Int))), some (.o (toD (v255.2 : (List Int)))), some (.d (toD (((1 : Int) + v146.1) : Int))), some (.d (toD (v148 : Int))), some (.o (toD (s164.2 : (List (List Int))))), some (.d (toD (x234 : Str))), some (.d (toD (x254 : Int))), some (.d (toD (v255.1 : Str))), none, none]) rfl (j_seq (Γs := fun (s258 : ((List Int) × Str)) => [some (.sc script), some (.d (toD (x144 : Int))), some (.o (toD (s258.1 : (List Int)))), some (.d (toD (((1 : Int) + v146.1) : Int))), some (.d (toD (v148 : Int))), some (.o (toD (s164.2 : (List (List Int))))), some (.d (toD (x234 : Str))), some (.d (toD (x254 : Int))), some (.d (toD (s258.2 : Str))), none, none]) (j_if1 (j_test (j_bin (j_call (j_aM rfl (j_aF (j_c (j_fzb (fzb_of fz_b) (j_anil (j_callF rfl (ba_o rfl (ba_b ba_nil)) (sim__law_draw v255.2 ((4 : Int))) (fun _ => rfl) (fun _ => rfl) fun v259 => (j_c (j_op rd_b rd_b (x_eq (τ := Int)) (j_bool rd_b (j_ite (j_last (j_re (Γ' := [some (.sc script), some (.d (toD (x144 : Int))), some (.o (toD (v259.2 : (List Int)))), some (.d (toD (((1 : Int) + v146.1) : Int))), some (.d (toD (v148 : Int))), some (.o (toD (s164.2 : (List (List Int))))), some (.d (toD (x234 : Str))), some (.d (toD (x254 : Int))), some (.d (toD (v255.1 : Str))), none, none]) rfl (j_asg (j_call (j_aM rfl (j_aF (j_var rfl (j_fzb (fzb_of (fz_d rfl)) (j_anil (j_callF rfl (ba_o rfl (ba_b ba_nil)) (sim__law_changed v259.2 v255.1) (fun _ => rfl) (fun _ => rfl) fun v260 => (j_fzb (fzb_of fz_b) (j_setD (j_nil (l := [1, 1, 1, 1, 1, 1, 1, 1, 1, 0, 0]) rfl rfl))))))))))))) (j_nil (l := [1, 1, 1, 1, 1, 1, 1, 1, 1, 0, 0]) rfl rfl))))))))))))))) fun s258 => (j_last (j_re (Γ' := [some (.sc script), some (.d (toD (x144 : Int))), some (.o (toD (s258.1 : (List Int)))), some (.d (toD (((1 : Int) + v146.1) : Int))), some (.d (toD (v148 : Int))), some (.o (toD (s164.2 : (List (List Int))))), some (.d (toD (x234 : Str))), some (.d (toD (x254 : Int))), some (.d (toD (s258.2 : Str))), none, none]) rfl (j_if (j_not (j_test (j_callP (j_aP (j_sl (j_var rfl (j_ono (j_osome (j_c (j_int rd_b (j_slopR (rd_d rfl) x_slS fun v261 => (j_aPb (j_anil (j_callPop rfl (la_b la_nil) rfl (sim__law_texts_right v261) (fun _ => rfl) fun v262 => (j_bool rd_b (j_ite (j_re (Γ' := [some (.sc script), some (.d (toD (x144 : Int))), some (.o (toD (s258.1 : (List Int)))), some (.d (toD (((1 : Int) + v146.1) : Int))), some (.d (toD (v148 : Int))), some (.o (toD (s164.2 : (List (List Int))))), some (.d (toD (x234 : Str))), some (.d (toD (x254 : Int))), some (.d (toD (s258.2 : Str))), none, none]) rfl (j_ret (j_c (j_retb (l := [0, 0, 0, 0, 0, 0, 0, 0, 0, 0, 0]) sl_d rfl rfl)))) (j_seqNil (j_nil (l := [1, 1, 1, 1, 1, 1, 1, 0, 0, 0, 0]) rfl rfl)))))))))))))))))))))))))))))))))))))))) fun s263 => (j_nil (l := [1, 1, 1, 1, 1, 1, 0, 0, 0, 0, 0]) rfl rfl)))))))))))))))))))))))))))))))))))))))))))) fun s264 => (j_re (Γ' := [some (.sc script), some (.d (toD (x144 : Int))), some (.o (toD (s264 : (List Int)))), some (.d (toD (((1 : Int) + v146.1) : Int))), some (.d (toD (v148 : Int))), some (.o (toD (s164.2 : (List (List Int))))), none, none, none, none, none]) rfl (j_if (j_not (j_test (j_callP (j_aP (j_call (j_aM rfl (j_anil (j_callF rfl (ba_o rfl ba_nil) (sim__law_odd s264) (fun _ => rfl) (fun _ => rfl) fun v265 => (j_aPb (j_anil (j_callPop rfl (la_b la_nil) rfl (sim__law_texts_right v265.1) (fun _ => rfl) fun v266 => (j_bool rd_b (j_ite (j_re (Γ' := [some (.sc script), some (.d (toD (x144 : Int))), some (.o (toD (v265.2 : (List Int)))), some (.d (toD (((1 : Int) + v146.1) : Int))), some (.d (toD (v148 : Int))), some (.o (toD (s164.2 : (List (List Int))))), none, none, none, none, none]) rfl (j_ret (j_c (j_retb (l := [0, 0, 0, 0, 0, 0, 0, 0, 0, 0, 0]) sl_d rfl rfl)))) (j_seqNil (j_re (Γ' := [some (.sc script), some (.d (toD (x144 : Int))), some (.o (toD (v265.2 : (List Int)))), some (.d (toD (((1 : Int) + v146.1) : Int))), some (.d (toD (v148 : Int))), some (.o (toD (s164.2 : (List (List Int))))), none, none, none, none, none]) rfl (j_asg (j_lst (j_dcons (j_c (j_fz fz_b (j_dcons (j_c (j_fz fz_b (j_dcons (j_c (j_fz fz_b (j_dcons (j_c (j_fz fz_b (j_dcons (j_lst (j_dcons (j_c (j_fz fz_b (j_dnil (j_lst2 (toD ([(0 : Int)] : (List Int))) rfl rfl (j_fz fz_w (j_dcons (j_lst (j_dcons (j_c (j_fz fz_b (j_dnil (j_lst2 (toD ([("0" : Str)] : (List Str))) rfl rfl (j_fz fz_w (j_dcons (j_tup (j_dcons (j_c (j_fz fz_b (j_dcons (j_c (j_fz fz_b (j_dnil (j_tup2 (toD (((0 : Int), (1 : Int)) : (Int × Int))) rfl rfl (j_fz fz_b (j_dcons (j_dnew (κ := Int) (υ := Int) (j_fz fz_w (j_dcons (j_lst (j_dcons (j_lst (j_dcons (j_c (j_fz fz_b (j_dnil (j_lst2 (toD ([(0 : Int)] : (List Int))) rfl rfl (j_fz fz_w (j_dnil (j_lst2 (toD ([[(0 : Int)]] : (List (List Int)))) rfl rfl (j_fz fz_w (j_dcons (j_var rfl (j_fz (fz_o rfl) (j_dcons (j_bin (j_var rfl (j_c (j_opR (rd_d rfl) rd_b (x_ix (τ := (List Int))) fun v267 => (j_fz fz_b (j_dcons (j_tup (j_dnil (j_tup2 (PyData.tuple []) rfl rfl (j_fz fz_b (j_dnil (j_lst2 (PyData.list (([(toD (() : Unit)), (toD ((0 : Int) : Int)), (toD ((1 : Int) : Int)), (toD (true : Bool)), (toD ([(0 : Int)] : (List Int))), (toD ([("0" : Str)] : (List Str))), (toD (((0 : Int), (1 : Int)) : (Int × Int))), (dD (([] : (List (Int × Int))) : (List (Int × Int)))), (toD ([[(0 : Int)]] : (List (List Int)))), (toD (s164.2 : (List (List Int)))), (toD (v267 : (List Int))), (PyData.tuple [])] : List PyData).map idD)) rfl rfl (j_fzb (fzb_of fz_w) (j_setD (j_re (Γ' := [some (.sc script), some (.d (toD (x144 : Int))), some (.o (toD (v265.2 : (List Int)))), some (.d (toD (((1 : Int) + v146.1) : Int))), some (.d (toD (v148 : Int))), some (.d (toD (s164.2 : (List (List Int))))), none, none, none, some (.d (PyData.list (([(toD (() : Unit)), (toD ((0 : Int) : Int)), (toD ((1 : Int) : Int)), (toD (true : Bool)), (toD ([(0 : Int)] : (List Int))), (toD ([("0" : Str)] : (List Str))), (toD (((0 : Int), (1 : Int)) : (Int × Int))), (dD (([] : (List (Int × Int))) : (List (Int × Int)))), (toD ([[(0 : Int)]] : (List (List Int)))), (toD (s164.2 : (List (List Int)))), (toD (v267 : (List Int))), (PyData.tuple [])] : List PyData).map idD))), none]) rfl (j_asg (j_bin (j_var rfl (j_call (j_aM rfl (j_aF (j_c (j_fzb (fzb_of fz_b) (j_anil (j_callF rfl (ba_o rfl (ba_b ba_nil)) (sim__law_draw v265.2 ((12 : Int))) (fun _ => rfl) (fun _ => rfl) fun v268 => (j_opR (rd_d rfl) rd_b x_ixY fun v269 => (j_fzb (fzb_of fz_b) (j_setD (j_last (j_re (Γ' := [some (.sc script), some (.d (toD (x144 : Int))), some (.o (toD (v268.2 : (List Int)))), some (.d (toD (((1 : Int) + v146.1) : Int))), some (.d (toD (v148 : Int))), some (.d (toD (s164.2 : (List (List Int))))), none, none, none, some (.d (PyData.list (([(toD (() : Unit)), (toD ((0 : Int) : Int)), (toD ((1 : Int) : Int)), (toD (true : Bool)), (toD ([(0 : Int)] : (List Int))), (toD ([("0" : Str)] : (List Str))), (toD (((0 : Int), (1 : Int)) : (Int × Int))), (dD (([] : (List (Int × Int))) : (List (Int × Int)))), (toD ([[(0 : Int)]] : (List (List Int)))), (toD (s164.2 : (List (List Int)))), (toD (v267 : (List Int))), (PyData.tuple [])] : List PyData).map idD))), some (.d v269)]) rfl (j_if (j_sub (bv := fun b281 : Bool => b281) (Γ1 := fun b281 : Bool => [some (.sc script), some (.d (toD (x144 : Int))), some (.o (toD (v268.2 : (List Int)))), some (.d (toD (((1 : Int) + v146.1) : Int))), some (.d (toD (v148 : Int))), some (.d (toD (s164.2 : (List (List Int))))), none, none, none, some (.d (PyData.list (([(toD (() : Unit)), (toD ((0 : Int) : Int)), (toD ((1 : Int) : Int)), (toD (true : Bool)), (toD ([(0 : Int)] : (List Int))), (toD ([("0" : Str)] : (List Str))), (toD (((0 : Int), (1 : Int)) : (Int × Int))), (dD (([] : (List (Int × Int))) : (List (Int × Int)))), (toD ([[(0 : Int)]] : (List (List Int)))), (toD (s164.2 : (List (List Int)))), (toD (v267 : (List Int))), (PyData.tuple [])] : List PyData).map idD))), some (.d v269)]) (j_orC (j_test (j_bin (j_call (j_aF (j_c (j_fzb (fzb_of fz_b) (j_aF (j_var rfl (j_fzb (fzb_of (fz_d rfl)) (j_anil (j_callF rfl (ba_b (ba_b ba_nil)) (simy__law_asked (("read" : Str)) v269) (fun _ => rfl) (fun _ => rfl) fun v282 => (j_tup (j_dcons (j_c (j_fz fz_b (j_dcons (j_c (j_fz fz_b (j_dnil (j_tup2 (toD ((("NoText" : Str), ()) : (Str × Unit))) rfl rfl (j_opR rd_b rd_b x_neY fun v283 => (j_bool rd_b (j_ite (j_kb (l := [1, 1, 1, 1, 1, 1, 0, 0, 0, 1, 1]) rfl rfl) (j_test (j_bin (j_call (j_aF (j_c (j_fzb (fzb_of fz_b) (j_aF (j_var rfl (j_fzb (fzb_of (fz_d rfl)) (j_anil (j_callF rfl (ba_b (ba_b ba_nil)) (simy__law_asked (("reads" : Str)) v269) (fun _ => rfl) (fun _ => rfl) fun v284 => (j_tup (j_dcons (j_c (j_fz fz_b (j_dcons (j_c (j_fz fz_b (j_dnil (j_tup2 (toD ((("NoText" : Str), ()) : (Str × Unit))) rfl rfl (j_opR rd_b rd_b x_neY fun v285 => (j_bool rd_b (j_kb (l := [1, 1, 1, 1, 1, 1, 0, 0, 0, 1, 1]) rfl rfl))))))))))))))))))))))))))))))))))))))))))))))) fun b281 => (j_ite (j_re (Γ' := [some (.sc script), some (.d (toD (x144 : Int))), some (.o (toD (v268.2 : (List Int)))), some (.d (toD (((1 : Int) + v146.1) : Int))), some (.d (toD (v148 : Int))), some (.d (toD (s164.2 : (List (List Int))))), none, none, none, some (.d (PyData.list (([(toD (() : Unit)), (toD ((0 : Int) : Int)), (toD ((1 : Int) : Int)), (toD (true : Bool)), (toD ([(0 : Int)] : (List Int))), (toD ([("0" : Str)] : (List Str))), (toD (((0 : Int), (1 : Int)) : (Int × Int))), (dD (([] : (List (Int × Int))) : (List (Int × Int)))), (toD ([[(0 : Int)]] : (List (List Int)))), (toD (s164.2 : (List (List Int)))), (toD (v267 : (List Int))), (PyData.tuple [])] : List PyData).map idD))), some (.d v269)]) rfl (j_ret (j_c (j_retb (l := [0, 0, 0, 0, 0, 0, 0, 0, 0, 0, 0]) sl_d rfl rfl)))) (j_seqNil (j_nil (l := [1, 0, 0, 0, 0, 0, 0, 0, 0, 0, 0]) rfl rfl)))))))))))))))))))))))))))))))))))))))))))))))))))))))))))))))))))))))))))))))))))))))))))))))))))))))))))))))))))))))))))))))))))))))))))))))))))))))))))))))))))))))))))))))))))))))))))))))))))))))))))))))))))))))))))) fun s286 => (j_last (j_re (Γ' := [some (.sc script), none, none, none, none, none, none, none, none, none, none]) rfl (j_ret (j_c (j_retb (l := [0, 0, 0, 0, 0, 0, 0, 0, 0, 0, 0]) sl_d rfl rfl))))))) (fun a p hp => nomatch hp)
end K78
set_option maxRecDepth 100000
namespace TM
open PySem VL VP D
open L2 (atI ixN)
mutual
def neat : PyData → Bool
  | .none | .bool _ => true
  | .int i => decide (i.natAbs < 10 ^ 30)
  | .str x => PyData.strOk x
  | .list xs | .tuple xs => neatAll xs
  | .dict kvs => neatKv kvs
def neatAll : List PyData → Bool
  | [] => true
  | x :: xs => neat x && neatAll xs
def neatKv : List (PyData × PyData) → Bool
  | [] => true
  | (k, v) :: r => neat k && neat v && neatKv r
end
theorem len_int {i : Int} (h : i.natAbs < 10 ^ 30) : (PyData.shown (.int i)).length ≤ 31 := by
  have e := int_text_length_le10 (k := 30) (by decide) h
  show (Str.ofString (toString i)).length ≤ 31
  rw [ofString_length]; exact e
/-- data that is small: leaves, weight, depth -/
structure Nt (w k : Nat) (d : PyData) : Prop where
  a : neat d = true
  w : d.weight ≤ w
  k : d.depth ≤ k
theorem Nt.mono {w k w' k' : Nat} {d : PyData} (h : Nt w k d) (h1 : w ≤ w') (h2 : k ≤ k') : Nt w' k' d := ⟨h.a, Nat.le_trans h.w h1, Nat.le_trans h.k h2⟩
theorem neatAll_mem : ∀ {xs : List PyData}, (∀ x ∈ xs, neat x = true) → neatAll xs = true
  | [], _ => by simp only [neatAll]
  | x :: xs, h => by simp only [neatAll, h x List.mem_cons_self, neatAll_mem fun y hy => h y (List.mem_cons_of_mem _ hy), Bool.and_self]
theorem weightAll_mem {w : Nat} : ∀ {xs : List PyData}, (∀ x ∈ xs, x.weight ≤ w) → PyData.weightAll xs ≤ xs.length * (w + 1)
  | [], _ => by simp [PyData.weightAll]
  | x :: xs, h => by
    have h1 := h x List.mem_cons_self
    have h2 := weightAll_mem fun y hy => h y (List.mem_cons_of_mem _ hy)
    simp only [PyData.weightAll, List.length_cons, Nat.succ_mul]
    omega
theorem depthAll_mem {k : Nat} : ∀ {xs : List PyData}, (∀ x ∈ xs, x.depth ≤ k) → PyData.depthAll xs ≤ k
  | [], _ => by simp [PyData.depthAll]
  | x :: xs, h => by
    have h1 := h x List.mem_cons_self
    have h2 := depthAll_mem fun y hy => h y (List.mem_cons_of_mem _ hy)
    simp only [PyData.depthAll]
    omega
end TM
set_option maxRecDepth 100000
namespace TM
open PySem VL VP D
open L2 (atI ixN)
instance {n : Nat} {xs : List Int} : Decidable (IsOrd n xs) := by unfold IsOrd; infer_instance
/-- whether data is an order of 1 to 12 things -/
def ordB : PyData → Bool
  | .list ds => match asInts ds with
    | some xs => decide (1 ≤ ds.length) && (decide (ds.length ≤ 12) && decide (IsOrd ds.length xs))
    | none => false
  | _ => false
theorem ordB_some {ds : List PyData} {xs : List Int} (q : asInts ds = some xs) : ordB (.list ds) = (decide (1 ≤ ds.length) && (decide (ds.length ≤ 12) && decide (IsOrd ds.length xs))) := by
  unfold ordB
  simp only [q]
theorem asInts_map : ∀ xs : List Int, asInts (xs.map W.Datum.toD) = some xs
  | [] => rfl
  | x :: xs => by
    show (asInts (xs.map W.Datum.toD)).map (x :: ·) = _
    rw [asInts_map xs]
    rfl
theorem asInts_len {ds : List PyData} {xs : List Int} (h : asInts ds = some xs) : ds.length = xs.length := by
  rw [asInts_eq h, List.length_map]
theorem ordB_ord {n : Nat} {xs : List Int} (h : IsOrd n xs) (h1 : 1 ≤ n) (h2 : n ≤ 12) : ordB (W.Datum.toD xs) = true := by
  show ordB (.list (xs.map W.Datum.toD)) = true
  unfold ordB
  simp only [asInts_map, List.length_map, h.length, h, decide_true, Bool.and_true, Bool.and_eq_true, decide_eq_true_eq]
  exact ⟨h1, h2⟩
theorem ordB_iff {d : PyData} : ordB d = true ↔ ∃ n xs, d = W.Datum.toD xs ∧ IsOrd n xs ∧ 1 ≤ n ∧ n ≤ 12 := by
  refine ⟨fun h => ?_, fun ⟨n, xs, e, ho, h1, h2⟩ => e ▸ ordB_ord ho h1 h2⟩
  unfold ordB at h
  split at h
  · rename_i ds
    split at h
    · rename_i xs q
      rw [Bool.and_eq_true, Bool.and_eq_true, decide_eq_true_eq, decide_eq_true_eq, decide_eq_true_eq] at h
      exact ⟨ds.length, xs, by rw [asInts_eq q]; rfl, h.2.2, h.1, h.2.1⟩
    · cases h
  · cases h
theorem neY_nil (xs : List PyData) : neY (.list xs) (.list []) = some (!xs.isEmpty) := by
  unfold neY
  split
  · cases xs <;> rfl
  · rfl
theorem eqY_nil (xs : List PyData) : eqY (.list xs) (.list []) = some xs.isEmpty := by
  unfold eqY
  split
  · cases xs <;> rfl
  · rfl
def whole (d : PyData) : Bool := isD .int d && !isD .bool d
theorem whole_iff {d : PyData} : whole d = true ↔ ∃ i, d = .int i := by
  refine ⟨fun h => ?_, fun ⟨i, e⟩ => e ▸ rfl⟩
  cases d with
  | int i => exact ⟨i, rfl⟩
  | _ => cases h
theorem asInts_some : ∀ {ds : List PyData}, (∀ d ∈ ds, whole d = true) → ∃ xs, asInts ds = some xs
  | [], _ => ⟨_, rfl⟩
  | d :: ds, h => by
    obtain ⟨i, rfl⟩ := whole_iff.mp (h d List.mem_cons_self)
    obtain ⟨xs, e⟩ := asInts_some fun x hx => h x (List.mem_cons_of_mem _ hx)
    exact ⟨i :: xs, by show (asInts ds).map (i :: ·) = _; rw [e]; rfl⟩
theorem asInts_none {ds : List PyData} {d : PyData} (hd : d ∈ ds) (h : whole d = false) : asInts ds = none := by
  cases q : asInts ds with
  | none => rfl
  | some xs =>
    rw [asInts_eq q] at hd
    obtain ⟨i, _, rfl⟩ := List.mem_map.mp hd
    cases h
theorem y_is_order_ok (d : PyData) : y_is_order d = .ok (ordB d) := by
  by_cases hd : isD .list d = true
  · cases d with
    | list ds =>
      unfold y_is_order
      rw [if_neg (by rw [show isD Ty.list (PyData.list ds) = true from rfl]; decide)]
      have hl : lenY (.list ds) = some (ds.length : Int) := rfl
      rw [hl, ob_some, bind_ok]
      by_cases h : 1 ≤ ds.length ∧ ds.length ≤ 12
      · rw [if_neg (by simp; omega)]
        have e1 : asLY (.list ds) = some ds := rfl
        rw [e1, ob_some, lcM_eq (fun x => !whole x) (fun x => x) (by unfold big; omega) (fun x hx => by
          show R.bind (y_is_whole x) _ = _
          show (if (!whole x) = true then R.ok (some x) else R.ok none) = _
          split <;> rfl), bind_ok, mapId, List.map_id', show (([] : List PyData).map idD) = [] from rfl, neY_nil, ob_some]
        by_cases hw : ∀ x ∈ ds, whole x = true
        · have e2 : ds.filter (fun x => !whole x) = [] := List.filter_eq_nil_iff.mpr fun x hx => by rw [hw x hx]; decide
          obtain ⟨xs, e3⟩ := asInts_some hw
          have hl2 := asInts_len e3
          have e4 : asLIY ds = some xs := e3
          rw [e2, show (!([] : List PyData).isEmpty) = false from rfl, if_neg (by decide), e4, ob_some, lrg1_nat (by omega), ob_some]
          unfold ordB
          have h1 := h.1
          have h2 := h.2
          rw [hl2] at h1 h2
          simp only [e3, h1, h2, decide_true, Bool.true_and, hl2]
          congr 1
          rw [Bool.eq_iff_iff, decide_eq_true_eq, decide_eq_true_eq]
          exact ⟨fun e => ((List.mergeSort_perm xs leI).symm.trans (e ▸ List.Perm.refl _)), fun e => sort_iota e⟩
        · have ⟨x, hx, hx2⟩ : ∃ x ∈ ds, whole x = false := by
            apply Classical.byContradiction
            intro z
            exact hw fun x hx => by
              cases q : whole x with
              | true => rfl
              | false => exact absurd ⟨x, hx, q⟩ z
          have e2 : (ds.filter (fun x => !whole x)).isEmpty = false := by
            cases q : ds.filter (fun x => !whole x) with
            | cons _ _ => rfl
            | nil => exact absurd (List.filter_eq_nil_iff.mp q x hx) (by rw [hx2]; decide)
          rw [e2, show (!false) = true from rfl, if_pos rfl]
          unfold ordB
          simp only [asInts_none hx hx2]
      · rw [if_pos (by simp; omega)]
        unfold ordB
        cases q : asInts ds with
        | none => simp only [q]
        | some xs =>
          simp only [q]
          congr 1
          symm
          rw [← Bool.and_assoc, Bool.and_eq_false_iff]
          left
          rw [Bool.and_eq_false_iff, decide_eq_false_iff_not, decide_eq_false_iff_not]
          omega
    | _ => cases hd
  · unfold y_is_order
    rw [if_pos (by simpa using hd), bind_ok, if_pos rfl]
    cases d <;> first | rfl | exact absurd rfl hd
end TM
set_option maxRecDepth 100000
namespace TM
open PySem VL VP D
open PySem.W (Datum Tup)
open PySem.W.Datum (toD)
open L2 (atI ixN)
variable {n : Nat} {xs ys : List Int} {τ : Type}
theorem cut_len (xs : List τ) (lo hi : Option Int) : (cutD xs lo hi).length ≤ xs.length := by
  unfold cutD
  rw [List.length_take, List.length_drop]
  omega
end TM
set_option maxRecDepth 100000
namespace K78
open PySem VL VP TM D
open PySem.W (Datum Tup)
open PySem.W.Datum (toD)
open L2 (atI ixN cutS)
variable {n m : Nat} {xs ys zs : List Int} {way d : PyData}
def PkOk (c : Nat) (p : List Int) : Prop := ∃ a b k : Int, p = [a, b, k] ∧ 0 ≤ k ∧ k ≤ (c : Int)
theorem PkOk.mono {c c' : Nat} {p : List Int} (h : PkOk c p) (e : c ≤ c') : PkOk c' p := by
  obtain ⟨a, b, k, e1, h0, h1⟩ := h
  exact ⟨a, b, k, e1, h0, by omega⟩
theorem emod_bd (a : Int) {b : Int} (h : 0 < b) : 0 ≤ a % b ∧ a % b < b := ⟨Int.emod_nonneg a (by omega), Int.emod_lt_of_pos a h⟩
theorem take_sat {c : Nat} {p : List Int} {many : Int} (h : PkOk c p) (hc : c ≤ 100000) (hm : 0 < many) (hm2 : many < 2 ^ 200) : Sat (m__law_draw p many) fun r => 0 ≤ r.1 ∧ r.1 < many ∧ PkOk (c + 1) r.2 := by
  obtain ⟨a, b, k, rfl, k0, k1⟩ := h
  unfold m__law_draw
  rw [show atI [a, b, k] (1 : Int) = some b from rfl, ob_some]
  by_cases hb : b = 1
  · rw [decide_eq_true hb, if_pos rfl, show atI [a, b, k] (0 : Int) = some a from rfl, ob_some, modI_of hm, ob_some, ob_some, fdivI_big hm hm2, ob_some, show setI [a, b, k] (0 : Int) (a / many) = some [a / many, b, k] from rfl, ob_some]
    obtain ⟨e0, e1⟩ := emod_bd a hm
    exact sat_ok ⟨e0, e1, _, _, _, rfl, k0, by omega⟩
  · rw [decide_eq_false hb, if_neg (by decide), show atI [a, b, k] (2 : Int) = some k from rfl, ob_some, show setI [a, b, k] (2 : Int) (k + 1) = some [a, b, k + 1] from rfl, ob_some, show atI [a, b, k + 1] (0 : Int) = some a from rfl, ob_some, show atI [a, b, k + 1] (2 : Int) = some (k + 1) from rfl, ob_some]
    obtain ⟨f0, f1⟩ := emod_bd (a % 999999999989 + 440023 * (k + 1)) (b := 999999999989) (by decide)
    rw [mulI_l (by omega), ob_some]
    generalize (a % 999999999989 + 440023 * (k + 1)) % 999999999989 = v
    obtain ⟨g0, g1⟩ := emod_bd (v * v) (b := 1000000000039) (by decide)
    rw [mulI_l (by omega), ob_some, modI_of hm, ob_some]
    obtain ⟨e0, e1⟩ := emod_bd ((v * v % 1000000000039 + 710009) * (v * v % 1000000000039) % 999999999961 / 7) hm
    exact sat_ok ⟨e0, e1, _, _, _, rfl, by omega, by omega⟩
theorem pool_ok (ns : List Int) (k : Nat) (hk : k ≤ 100) : Sat (m__law_pool ns (k : Int)) fun p => PkOk 3700 p := by
  unfold m__law_pool
  refine sat_bind (Q := fun _ => True) ?_ fun s _ => ?_
  · by_cases h : (k : Int) < (ns.length : Int)
    · rw [decide_eq_true h, if_pos rfl, at_of (by omega) h, ob_some]
      exact sat_ok trivial
    · rw [decide_eq_false h, if_neg (by decide)]
      exact sat_ok trivial
  · exact sat_ok ⟨_, _, _, rfl, by omega, by omega⟩
theorem sat_atP {τ : Type} {ds : List τ} {i : Int} {β : Type} {K : τ → R β} {P : β → Prop} (Q : τ → Prop) (h : ∀ d ∈ ds, Q d) (h0 : 0 ≤ i) (h1 : i < ds.length) (hk : ∀ v, Q v → Sat (K v) P) : Sat (ob (atI ds i) K) P :=
  sat_ob (at_of h0 h1) (hk _ (h _ (List.getElem_mem _)))
theorem pops_ok {c : Nat} {p left xs3 : List Int} (hd : PkOk c p) (hc : c ≤ 90000) (hl : xs3.length = left.length) (h2 : left.length ≤ 1000) :
    Sat (lcS (fun (s8 : ((List Int) × (List Int))) (x3 : Int) => R.calm (R.bind (m__law_draw s8.1 ((s8.2.length : Int))) fun v9 =>
    ob (popI s8.2 v9.1) fun v10 =>
    .ok (some v10.1, (v9.2, v10.2)))) xs3 [] (p, left)) fun r => r.1.Perm left ∧ PkOk (c + left.length) r.2.1 := by
  have := sat_lcS (step := fun (s8 : ((List Int) × (List Int))) (x3 : Int) => R.calm (R.bind (m__law_draw s8.1 ((s8.2.length : Int))) fun v9 =>
    ob (popI s8.2 v9.1) fun v10 =>
    R.ok (some v10.1, (v9.2, v10.2)))) (fun k acc s => PkOk (c + k) s.1 ∧ (acc ++ s.2).Perm left ∧ s.2.length + k = left.length) xs3 0 [] (p, left) (by simp) (by unfold big; omega) ⟨hd, List.Perm.refl _, by show left.length + 0 = left.length; omega⟩ fun i acc s hi hs => by
      obtain ⟨s1, s2⟩ := s
      obtain ⟨q1, q2, q3⟩ := hs
      dsimp only at q1 q2 q3 ⊢
      refine sat_calm (sat_bind (take_sat q1 (by omega) (by omega) (by omega)) fun r ⟨v0, v1, ok'⟩ => ?_)
      obtain ⟨x, ys, e2, p1, p2⟩ := popI_perm (xs := s2) v0 v1 (by unfold big; omega)
      rw [e2, ob_some]
      refine sat_ok ⟨ok', ?_, by dsimp only; omega⟩
      refine List.Perm.trans ?_ q2
      rw [List.append_assoc]
      exact List.Perm.append_left acc p1
  refine this.mono fun r ⟨h1, h3, h4⟩ => ⟨?_, ?_⟩
  · have h5 : r.2.2 = [] := List.eq_nil_of_length_eq_zero (by omega)
    rw [h5, List.append_nil] at h3
    exact h3
  · rw [hl, Nat.zero_add] at h1
    exact h1
theorem order_ok {c : Nat} {p : List Int} (hd : PkOk c p) (hc : c ≤ 90000) (h2 : n ≤ 12) : Sat (m__law_order p (n : Int)) fun r => IsOrd n r.1 ∧ PkOk (c + 12) r.2 := by
  unfold m__law_order
  rw [lrg1_nat (by omega), ob_some, rg1_nat (by omega), ob_some]
  refine sat_bind (pops_ok hd hc rfl (by rw [iota_len]; omega)) fun r ⟨a, b⟩ => sat_ok ⟨a, ?_⟩
  rw [iota_len] at b
  exact b.mono (by omega)
end K78
set_option maxRecDepth 100000
namespace TM
open PySem VL VP D
open PySem.W (Datum Tup)
open PySem.W.Datum (toD)
open L2 (atI ixN)
end TM
set_option maxRecDepth 100000
namespace TM
open PySem VL VP D
open PySem.W (Datum Tup)
open PySem.W.Datum (toD)
open L2 (atI ixN cutS)
variable {n m : Nat} {xs ys : List Int} {d e : PyData}
theorem cutS_cps (z : Str) (lo hi : Option Int) : (cutS z lo hi).cps.toList = cutD z.cps.toList lo hi := by
  unfold cutS cutD
  rw [Array.length_toList]
  rfl
def StO (w : Nat) (s : Str) : Prop := (∀ c ∈ s.cps.toList, c < 0x110000) ∧ s.cps.toList.length ≤ w
theorem app_cps (a b : Str) : (a ++ b).cps.toList = a.cps.toList ++ b.cps.toList := Array.toList_append
end TM
set_option maxRecDepth 100000
namespace TM
open PySem VL VP D
open PySem.W (Datum Tup)
open PySem.W.Datum (toD)
open L2 (atI ixN cutS)
variable {n m : Nat} {xs ys : List Int} {d e : PyData} {w v k : Nat} {ds es : List PyData}
structure NtL (w k : Nat) (ds : List PyData) : Prop where
  a : ∀ x ∈ ds, neat x = true
  w : PyData.weightAll ds ≤ w
  k : ∀ x ∈ ds, x.depth ≤ k
theorem NtL.one (h : Nt w k d) : NtL (w + 1) k [d] :=
  ⟨fun x hx => by rw [List.mem_singleton] at hx; rw [hx]; exact h.a, by simp only [PyData.weightAll]; have := h.w; omega, fun x hx => by rw [List.mem_singleton] at hx; rw [hx]; exact h.k⟩
theorem NtL.of (h : ∀ x ∈ ds, Nt w k x) (hm : ds.length ≤ m) : NtL (m * (w + 1)) k ds :=
  ⟨fun x hx => (h x hx).a, Nat.le_trans (weightAll_mem fun x hx => (h x hx).w) (Nat.mul_le_mul_right _ hm), fun x hx => (h x hx).k⟩
theorem NtL.list {w' k' : Nat} (h : NtL w k ds) (hw : w ≤ w') (hk : k + 1 ≤ k') : Nt w' k' (.list ds) :=
  ⟨by simp only [neat]; exact neatAll_mem h.a, by simp only [PyData.weight]; exact Nat.le_trans h.w hw, by simp only [PyData.depth]; have := depthAll_mem h.k; omega⟩
theorem NtL.tuple {w' k' : Nat} (h : NtL w k ds) (hw : w ≤ w') (hk : k + 1 ≤ k') : Nt w' k' (.tuple ds) :=
  ⟨by simp only [neat]; exact neatAll_mem h.a, by simp only [PyData.weight]; exact Nat.le_trans h.w hw, by simp only [PyData.depth]; have := depthAll_mem h.k; omega⟩
theorem NtL.mono {w' k' : Nat} (h : NtL w k ds) (hw : w ≤ w') (hk : k ≤ k') : NtL w' k' ds := ⟨h.a, Nat.le_trans h.w hw, fun x hx => Nat.le_trans (h.k x hx) hk⟩
end TM
set_option maxRecDepth 100000
namespace D
open PySem VL VP TM TL
open PySem.W (Datum Tup)
open PySem.W.Datum (toD)
open PySem.SeqAt (shaped)
open L2 (atI ixN cutS)
variable {xs ys : List Int} {ll : List (List Int)}
def numT (x : Int) : Str := Str.ofString (toString x)
theorem tl_numT (n : Nat) : tl (numT (n : Int)) = numL n := tl_num n
theorem strS_num {n : Nat} (h : n < 1000) : strS (toD (n : Int)) = some (numT (n : Int)) := by
  unfold strS
  have e : oStr (toD (n : Int)) = some (.fr (.str (numT (n : Int)))) := by
    show (if (n : Int).natAbs.log2 < 1920 then _ else _) = _
    rw [if_pos (by have := Nat.log2_le_self (n : Int).natAbs; omega)]
    rfl
  rw [e]
theorem numT_len {n : Nat} (h : n < 1000) : (numT (n : Int)).length ≤ 3 := by
  rw [len_tl, tl_numT]
  exact numL_len (by decide) h
theorem tl_bl : tl (" " : Str) = [32] := by decide +kernel
theorem tl_cm : tl (", " : Str) = [44, 32] := by decide +kernel
theorem mem_joinL {S : List Nat} {c : Nat} : ∀ {ps : List (List Nat)}, c ∈ joinL S ps → c ∈ S ∨ ∃ p ∈ ps, c ∈ p
  | [], h => nomatch h
  | [p], h => .inr ⟨p, List.mem_singleton.mpr rfl, h⟩
  | p :: q :: r, h => by
    rcases List.mem_append.mp (show c ∈ p ++ (S ++ joinL S (q :: r)) from h) with h | h
    · exact .inr ⟨p, List.mem_cons_self, h⟩
    · rcases List.mem_append.mp h with h | h
      · exact .inl h
      · rcases mem_joinL h with h | ⟨z, hz, h⟩
        · exact .inl h
        · exact .inr ⟨z, List.mem_cons_of_mem _ hz, h⟩
theorem len_joinL {S : List Nat} {m : Nat} : ∀ {ps : List (List Nat)}, (∀ p ∈ ps, p.length ≤ m) → (joinL S ps).length ≤ ps.length * (m + S.length)
  | [], _ => Nat.zero_le _
  | [p], h => by
    have := h p (List.mem_singleton.mpr rfl)
    show p.length ≤ 1 * (m + S.length)
    omega
  | p :: q :: r, h => by
    have h1 := h p List.mem_cons_self
    have h2 := len_joinL (S := S) (ps := q :: r) fun z hz => h z (List.mem_cons_of_mem _ hz)
    show (p ++ (S ++ joinL S (q :: r))).length ≤ (q :: r).length.succ * (m + S.length)
    rw [List.length_append, List.length_append, Nat.succ_mul]
    omega
theorem sum_len {m : Nat} : ∀ {ps : List Str}, (∀ p ∈ ps, p.length ≤ m) → (ps.map (·.length)).sum ≤ ps.length * m
  | [], _ => Nat.zero_le _
  | p :: ps, h => by
    have h1 := h p List.mem_cons_self
    have h2 := sum_len (ps := ps) fun z hz => h z (List.mem_cons_of_mem _ hz)
    rw [List.map_cons, List.sum_cons, List.length_cons, Nat.succ_mul]
    omega
/-- an order's text -/
def wordsT (o : List Int) : Str := Str.join " " (o.map numT)
def listT (ll : List (List Int)) : Str := Str.join ", " (ll.map wordsT)
def textsT (ll : List (List Int)) : Str := if ll = [] then "-" else listT ll
/-- few small numbers, one at least -/
structure Few (o : List Int) : Prop where
  ne : 1 ≤ o.length
  few : o.length ≤ 100
  sm : ∀ x ∈ o, ∃ n : Nat, x = (n : Int) ∧ n < 1000
theorem numT_free {s : Nat} (h : s < 48 ∨ 57 < s) (hx : ∃ n : Nat, x = (n : Int) ∧ n < 1000) : s ∉ tl (numT x) := by
  obtain ⟨n, rfl, _⟩ := hx
  rw [tl_numT]
  exact numL_free h
theorem tl_words (o : List Int) : tl (wordsT o) = joinL [32] (o.map fun x => tl (numT x)) := by
  unfold wordsT
  rw [tl_join, tl_bl, List.map_map]
  rfl
theorem words_mem (h : Few xs) {c : Nat} (hc : c ∈ tl (wordsT xs)) : c = 32 ∨ (48 ≤ c ∧ c ≤ 57) := by
  rw [tl_words] at hc
  rcases mem_joinL hc with h1 | ⟨p, hp, h1⟩
  · exact .inl (List.mem_singleton.mp h1)
  · obtain ⟨x, hx, rfl⟩ := List.mem_map.mp hp
    refine .inr ?_
    by_cases hq : c < 48 ∨ 57 < c
    · exact absurd h1 (numT_free hq (h.sm x hx))
    · omega
theorem words_len (h : Few xs) : (wordsT xs).length ≤ 400 := by
  rw [len_tl, tl_words]
  refine Nat.le_trans (len_joinL (m := 3) fun p hp => ?_) (by
    rw [List.length_map]
    have := h.few
    show xs.length * 4 ≤ 400
    omega)
  obtain ⟨x, hx, rfl⟩ := List.mem_map.mp hp
  obtain ⟨n, rfl, hn⟩ := h.sm x hx
  rw [← len_tl]
  exact numT_len hn
theorem join_words (h : Few xs) : joinS " " (xs.map numT) = some (wordsT xs) := by
  unfold joinS
  have hb : big = 1000000 := rfl
  have h1 := sum_len (m := 3) (ps := xs.map numT) fun p hp => by
    obtain ⟨x, hx, rfl⟩ := List.mem_map.mp hp
    obtain ⟨n, rfl, hn⟩ := h.sm x hx
    exact numT_len hn
  have h2 := h.few
  have h3 : ((" " : Str)).length = 1 := by decide +kernel
  rw [List.length_map] at h1
  rw [if_pos (by rw [List.length_map, h3]; omega)]
  rfl
/-- lists of such -/
structure FewL (ll : List (List Int)) : Prop where
  few : ll.length ≤ 1000
  all : ∀ o ∈ ll, Few o
theorem tl_list (ll : List (List Int)) : tl (listT ll) = joinL [44, 32] (ll.map fun o => tl (wordsT o)) := by
  unfold listT
  rw [tl_join, tl_cm, List.map_map]
  rfl
theorem list_len (h : FewL ll) : (listT ll).length ≤ 402000 := by
  rw [len_tl, tl_list]
  refine Nat.le_trans (len_joinL (m := 400) fun p hp => ?_) (by
    rw [List.length_map]
    have := h.few
    show ll.length * 402 ≤ 402000
    omega)
  obtain ⟨x, hx, rfl⟩ := List.mem_map.mp hp
  rw [← len_tl]
  exact words_len (h.all x hx)
theorem join_list (h : FewL ll) : joinS ", " (ll.map wordsT) = some (listT ll) := by
  unfold joinS
  have hb : big = 1000000 := rfl
  have h1 := sum_len (m := 400) (ps := ll.map wordsT) fun p hp => by
    obtain ⟨x, hx, rfl⟩ := List.mem_map.mp hp
    exact words_len (h.all x hx)
  have h2 := h.few
  have h3 : ((", " : Str)).length = 2 := by decide +kernel
  rw [List.length_map] at h1
  rw [if_pos (by rw [List.length_map, h3]; omega)]
  rfl
theorem split_list (h : FewL ll) (hne : ll ≠ []) : splitS (listT ll) ", " = some (ll.map wordsT) := by
  unfold splitS
  have hb : big = 1000000 := rfl
  have h2 := list_len h
  rw [if_pos ⟨by decide +kernel, by omega⟩]
  have := split_join tl_cm (by decide +kernel) (parts := ll.map wordsT) (fun e => hne (List.map_eq_nil_iff.mp e)) fun p hp => by
    obtain ⟨x, hx, rfl⟩ := List.mem_map.mp hp
    intro hc
    have := words_mem (h.all x hx) hc
    omega
  rw [join_eq] at this
  exact congrArg some this
theorem neG_nil (l : List Str) : neG l [] = some (!decide (l = [])) := by
  unfold neG
  split
  · rfl
  · show (some (l.map toD).isEmpty).map (fun b => !b) = _
    cases l <;> rfl
end D
set_option maxRecDepth 100000
namespace K78
open PySem VL VP TM D
open PySem.W (Datum Tup)
open PySem.W.Datum (toD)
open PySem.SeqAt (shaped)
open L2 (atI ixN cutS)
variable {n : Nat} {xs ys : List Int} {ll : List (List Int)} {ds : List PyData} {d : PyData}
def lenD : PyData → Int
  | .list ds => ds.length
  | _ => 0
def ordsB (ds : List PyData) : Bool := ds.all ordB && ds.all fun x => decide (lenD x = lenD (ds.headD .none))
theorem ordB_len (h : ordB d = true) : lenY d = some (lenD d) := by
  obtain ⟨n, xs, rfl, _⟩ := ordB_iff.mp h
  rfl
theorem filt_isE {τ : Type} {p : τ → Bool} {l : List τ} : (l.filter p).isEmpty = l.all fun x => !p x := by
  rw [Bool.eq_iff_iff, List.isEmpty_iff, List.filter_eq_nil_iff, List.all_eq_true]
  exact ⟨fun h x hx => by have := h x hx; simpa using this, fun h x hx => by have := h x hx; simpa using this⟩
/-- the second look: all as long as the first one -/
theorem lens_ok {K : PyData → R (Option PyData)} (hl : ds.length ≤ 1000) (h : ds.all ordB = true) (hk : ∀ x, K x = (ob (lenY x) fun a => ob (atI ds (0 : Int)) fun b => ob (lenY b) fun c => if (!decide (a = c)) = true then .ok (some x) else .ok none)) :
    lcM (fun x => (K x).calm) ds [] = .ok (ds.filter fun x => !decide (lenD x = lenD (ds.headD .none))) := by
  have hb : big = 1000000 := rfl
  rw [List.all_eq_true] at h
  rw [lcM_eq (fun x => !decide (lenD x = lenD (ds.headD .none))) (fun x => x) (by omega) (fun x hx => by
    have h0 : 0 < ds.length := List.length_pos_of_mem hx
    have e0 : atI ds (0 : Int) = some (ds.headD .none) := by
      rw [at_of (by decide) (by omega)]
      cases ds with
      | nil => cases hx
      | cons d ds => rfl
    have hh : ordB (ds.headD .none) = true := by
      cases ds with
      | nil => cases hx
      | cons d ds => exact h _ List.mem_cons_self
    rw [hk, ordB_len (h x hx), ob_some, e0, ob_some, ordB_len hh, ob_some]
    cases decide (lenD x = lenD (ds.headD .none)) <;> rfl), List.map_id']
theorem is_orders_ok (hl : ds.length ≤ 1000) : y_is_orders (.list ds) = .ok (ordsB ds) := by
  have hb : big = 1000000 := rfl
  unfold y_is_orders
  rw [if_neg (by rw [show isD Ty.list (PyData.list ds) = true from rfl]; decide), show asLY (.list ds) = some ds from rfl, ob_some, ob_some, lcM_eq (fun x => !ordB x) (fun x => x) (by omega) (fun x hx => by
    rw [y_is_order_ok, bind_ok]
    cases ordB x <;> rfl), bind_ok, mapId, List.map_id', show (([] : List PyData).map idD) = [] from rfl, neY_nil, ob_some, bind_ok, filt_isE]
  unfold ordsB
  have e1 : (ds.all fun x => !!ordB x) = ds.all ordB := by congr 1; funext x; exact Bool.not_not _
  rw [e1]
  cases h : ds.all ordB with
  | false => rfl
  | true =>
    rw [if_neg (by decide), lens_ok hl h (fun x => rfl), bind_ok, mapId, eqY_nil, ob_some, filt_isE, Bool.true_and]
    congr 1
    congr 1
    funext x
    exact Bool.not_not _
theorem few_ord {o : List Int} (h : IsOrd n o) (h1 : 1 ≤ n) (h2 : n ≤ 12) : Few o :=
  ⟨by rw [h.length]; exact h1, by rw [h.length]; omega, fun x hx => by
    have := mem_iota.mp (h.mem_iff.mp hx)
    exact ⟨x.toNat, by omega, by omega⟩⟩
theorem written_ok {o : List Int} (h : Few o) : m__law_written o = .ok (wordsT o) := by
  have hb : big = 1000000 := rfl
  have hl := h.few
  unfold m__law_written
  rw [lcM_map numT (by omega) (fun x hx => by
    obtain ⟨k, rfl, hk⟩ := h.sm x hx
    rw [strS_num hk, ob_some]), bind_ok, join_words h, ob_some]
theorem list_written_ok (h : FewL ll) : m__law_list_written ll = .ok (textsT ll) := by
  have hb : big = 1000000 := rfl
  have hl := h.few
  unfold m__law_list_written textsT
  by_cases hn : ll = []
  · rw [decide_eq_true hn, if_neg (by decide), if_pos hn]
  · rw [decide_eq_false hn, if_pos (by decide), if_neg hn, lcM_map wordsT (by omega) (fun x hx => by rw [written_ok (h.all x hx), bind_ok]), bind_ok, join_list h, ob_some]
theorem drawn_ok {c m : Nat} {p l : List Int} (hd : PkOk c p) (hc : c + 12 * l.length ≤ 80000) (h1 : 1 ≤ n) (h2 : n ≤ 12) (hl : l.length = m) :
    Sat (lcS (fun (s : List Int) (x : Int) => R.calm (R.bind (m__law_order s (n : Int)) fun v => .ok (some v.1, v.2))) l [] p) fun r => r.1.length = m ∧ (∀ o ∈ r.1, IsOrd n o) ∧ PkOk (c + 12 * m) r.2 := by
  subst hl
  have := sat_lcS (step := fun (s : List Int) (x : Int) => R.calm (R.bind (m__law_order s (n : Int)) fun v => R.ok (some v.1, v.2))) (fun k acc s => PkOk (c + 12 * k) s ∧ (∀ o ∈ acc, IsOrd n o) ∧ acc.length = k) l 0 [] p (by simp) (by unfold big; omega) ⟨hd, (fun o ho => nomatch ho), rfl⟩ fun i acc s hi ⟨q1, q2, q3⟩ => by
    refine sat_calm (sat_bind (order_ok q1 (by omega) h2) fun r ⟨o1, k1⟩ => ?_)
    refine sat_ok ⟨k1.mono (by omega), fun o ho => ?_, by rw [List.length_append, List.length_singleton]; omega⟩
    rcases List.mem_append.mp ho with h | h
    · exact q2 o h
    · rw [List.mem_singleton] at h; rw [h]; exact o1
  refine this.mono fun r ⟨e2, e3, e1⟩ => ⟨by omega, e3, e2.mono (by omega)⟩
end K78
set_option maxRecDepth 100000
namespace K78
open PySem VL VP TM D
open PySem.W (Datum Tup)
open PySem.W.Datum (toD)
open PySem.SeqAt (shaped)
open L2 (atI ixN cutS)
variable {n : Nat} {xs ys : List Int} {ll : List (List Int)} {ds : List PyData} {d : PyData} {t w : Str}
def FIGL : List Nat := [48, 49, 50, 51, 52, 53, 54, 55, 56, 57]
theorem fig_l : ("0123456789" : Str).cps.toList = FIGL := by decide +kernel
/-- the number that is written so -/
def numL : List Nat → Option Int
  | [a] => if a ∈ FIGL then intText? ⟨#[a]⟩ else none
  | [a, b] => if a ∈ FIGL ∧ b ∈ FIGL ∧ a ≠ 48 then intText? ⟨#[a, b]⟩ else none
  | _ => none
def numV (w : Str) : Option Int := numL w.cps.toList
theorem int_one : ∀ a ∈ FIGL, (intText? ⟨#[a]⟩).isSome = true := by decide +kernel
theorem int_two : ∀ a ∈ FIGL, ∀ b ∈ FIGL, (intText? ⟨#[a, b]⟩).isSome = true := by decide +kernel
theorem str_l (w : Str) : w = ⟨w.cps.toList.toArray⟩ := by cases w; simp
theorem len_l (w : Str) : w.length = w.cps.toList.length := by rw [Array.length_toList]; rfl
/-- the signs that are no figures -/
theorem signs_ok {l : List Nat} (hl : l.length ≤ 1000000) : lcM (fun (x14 : Str) => R.calm (ob (notInS x14 (("0123456789" : Str))) fun v15 => if v15 = true then (.ok (some x14)) else (.ok none))) (signs ⟨l.toArray⟩) [] = .ok ((l.filter fun c => !decide (c ∈ FIGL)).map fun c => ⟨#[c]⟩) := by
  have e : signs ⟨l.toArray⟩ = l.map fun c => ⟨#[c]⟩ := by unfold signs; simp
  rw [e, lcM_eq (fun s : Str => !decide (s.cps.getD 0 0 ∈ FIGL)) (fun s => s) (by rw [List.length_map]; exact hl) (fun s hs => by
    obtain ⟨c, _, rfl⟩ := List.mem_map.mp hs
    show (ob (if (#[c] : Array Nat).size = 1 then some (!decide ((#[c] : Array Nat).getD 0 0 ∈ ("0123456789" : Str).cps.toList)) else none) fun v15 => _) = _
    rw [if_pos (show (#[c] : Array Nat).size = 1 from rfl), fig_l, ob_some]
    cases (!decide ((#[c] : Array Nat).getD 0 0 ∈ FIGL)) <;> rfl), List.map_id', List.filter_map]
  rfl
theorem fil_nil {l : List Nat} : ((l.filter fun c => !decide (c ∈ FIGL)).map fun c => (⟨#[c]⟩ : Str)) = [] ↔ ∀ c ∈ l, c ∈ FIGL := by
  rw [List.map_eq_nil_iff, List.filter_eq_nil_iff]
  refine ⟨fun h c hc => ?_, fun h c hc => ?_⟩
  · have := h c hc
    simpa using this
  · have := h c hc
    simpa using this
theorem lenS_l {l : List Nat} (hl : l.length ≤ 1000000) : lenS ⟨l.toArray⟩ = some (l.length : Int) := by
  unfold lenS
  rw [show (⟨l.toArray⟩ : Str).length = l.length by show l.toArray.size = _; simp, if_pos (show l.length ≤ big from hl)]
theorem ix_l {a : Nat} {l : List Nat} (hl : (a :: l).length ≤ 1000000) : ixS ⟨(a :: l).toArray⟩ (0 : Int) = some ⟨#[a]⟩ := by
  unfold ixS
  rw [if_pos (by show (a :: l).toArray.size ≤ big; simpa [big] using hl), show atI (⟨(a :: l).toArray⟩ : Str).cps.toList (0 : Int) = some a by rw [show (⟨(a :: l).toArray⟩ : Str).cps.toList = a :: l by simp]; exact at_of (xs := a :: l) (by decide) (by rw [List.length_cons]; omega)]
  rfl
theorem one_ne {a : Nat} : ((⟨#[a]⟩ : Str) = ("0" : Str)) ↔ a = 48 := by
  rw [show ("0" : Str) = ⟨#[48]⟩ by decide +kernel]
  constructor
  · intro h
    injection h with h
    simpa using h
  · intro h
    rw [h]
theorem neG_S (a b : Str) : neG a b = some (!decide (a = b)) := TM.neG_str a b
/-- the first look at a word -/
theorem look_ok {l : List Nat} (hl : l.length ≤ 300000) : (R.bind (ob (lenS ⟨l.toArray⟩) fun v13 =>
  if (!((decide ((1 : Int) ≤ v13)) && (decide (v13 ≤ (2 : Int))))) = true then
  (.ok true)
  else
  (R.bind (lcM (fun (x14 : Str) => R.calm (ob (notInS x14 (("0123456789" : Str))) fun v15 =>
  if v15 = true then
  (.ok (some x14))
  else
  (.ok none))) ((signs ⟨l.toArray⟩)) []) fun ys16 =>
  ob (neG ys16 (([] : (List Str)))) fun v17 =>
  .ok v17)) R.ok : R Bool) = .ok (!(decide (1 ≤ l.length ∧ l.length ≤ 2) && decide (∀ c ∈ l, c ∈ FIGL))) := by
  rw [lenS_l (by omega), ob_some]
  by_cases h : 1 ≤ l.length ∧ l.length ≤ 2
  · rw [if_neg (by simp; omega), signs_ok (by omega), bind_ok, neG_nil, ob_some, bind_ok, decide_eq_true h, Bool.true_and]
    congr 2
    exact decide_eq_decide.mpr fil_nil
  · rw [if_pos (by simp; omega), bind_ok, decide_eq_false h, Bool.false_and]
    rfl
theorem is_number_ok (hw : w.length ≤ 300000) : m_is_number w = .ok (numV w).isSome := by
  rw [len_l] at hw
  unfold numV
  rw [str_l w]
  generalize w.cps.toList = l at hw
  have lk := look_ok hw
  unfold m_is_number
  have lk2 : ∀ K : Bool → R Bool, R.bind (ob (lenS ⟨l.toArray⟩) fun v13 =>
    if (!((decide ((1 : Int) ≤ v13)) && (decide (v13 ≤ (2 : Int))))) = true then
    (.ok true)
    else
    (R.bind (lcM (fun (x14 : Str) => R.calm (ob (notInS x14 (("0123456789" : Str))) fun v15 =>
    if v15 = true then
    (.ok (some x14))
    else
    (.ok none))) ((signs ⟨l.toArray⟩)) []) fun ys16 =>
    ob (neG ys16 (([] : (List Str)))) fun v17 =>
    .ok v17)) K = K (!(decide (1 ≤ l.length ∧ l.length ≤ 2) && decide (∀ c ∈ l, c ∈ FIGL))) := fun K => by
    have : ∀ (m : R Bool) (b : Bool), R.bind m R.ok = .ok b → R.bind m K = K b := fun m b h => by
      cases m with
      | no => cases h
      | ex c => cases h
      | ok a => cases h; rfl
    exact this _ _ lk
  rw [lk2]
  match l, hw with
  | [], _ => rfl
  | [a], h1 =>
    by_cases ha : a ∈ FIGL
    · obtain ⟨i, hi⟩ := Option.isSome_iff_exists.mp (int_one a ha)
      rw [show decide (∀ c ∈ [a], c ∈ FIGL) = true from decide_eq_true (by simpa using ha), lenS_l (by simp)]
      show _ = R.ok (if a ∈ FIGL then intText? ⟨#[a]⟩ else none).isSome
      rw [if_pos ha, hi]
      rfl
    · rw [show decide (∀ c ∈ [a], c ∈ FIGL) = false from decide_eq_false (by simpa using ha)]
      show _ = R.ok (if a ∈ FIGL then intText? ⟨#[a]⟩ else none).isSome
      rw [if_neg ha]
      rfl
  | [a, b], h1 =>
    by_cases hf : a ∈ FIGL ∧ b ∈ FIGL
    · obtain ⟨i, hi⟩ := Option.isSome_iff_exists.mp (int_two a hf.1 b hf.2)
      rw [show decide (∀ c ∈ [a, b], c ∈ FIGL) = true from decide_eq_true (by simpa using hf), lenS_l (by simp), ix_l (by simp)]
      show (if (!(decide (1 ≤ ([a, b] : List Nat).length ∧ ([a, b] : List Nat).length ≤ 2) && true)) = true then _ else _) = R.ok (if a ∈ FIGL ∧ b ∈ FIGL ∧ a ≠ 48 then intText? ⟨#[a, b]⟩ else none).isSome
      rw [if_neg (by simp), ob_some, if_neg (by simp), ob_some, neG_S, ob_some]
      by_cases h0 : a = 48
      · rw [if_neg (by simp [h0]), decide_eq_true (one_ne.mpr h0)]
        rfl
      · rw [if_pos ⟨hf.1, hf.2, h0⟩, hi, decide_eq_false fun z => h0 (one_ne.mp z)]
        rfl
    · rw [show decide (∀ c ∈ [a, b], c ∈ FIGL) = false from decide_eq_false (by simpa using hf)]
      rw [if_pos (by simp)]
      show _ = R.ok (if a ∈ FIGL ∧ b ∈ FIGL ∧ a ≠ 48 then intText? ⟨#[a, b]⟩ else none).isSome
      rw [if_neg (show ¬(a ∈ FIGL ∧ b ∈ FIGL ∧ a ≠ 48) from fun z => hf ⟨z.1, z.2.1⟩)]
      rfl
  | a :: b :: c :: r, h1 =>
    rw [show decide (1 ≤ (a :: b :: c :: r).length ∧ (a :: b :: c :: r).length ≤ 2) = false from decide_eq_false (by simp)]
    rfl
theorem number_ok (hw : w.length ≤ 300000) : m__law_number w = .ok (numV w) := by
  rw [len_l] at hw
  unfold numV
  rw [str_l w]
  generalize w.cps.toList = l at hw
  have lk := look_ok hw
  unfold m__law_number
  have lk2 : ∀ K : Bool → R (Option Int), R.bind (ob (lenS ⟨l.toArray⟩) fun v13 =>
    if (!((decide ((1 : Int) ≤ v13)) && (decide (v13 ≤ (2 : Int))))) = true then
    (.ok true)
    else
    (R.bind (lcM (fun (x14 : Str) => R.calm (ob (notInS x14 (("0123456789" : Str))) fun v15 =>
    if v15 = true then
    (.ok (some x14))
    else
    (.ok none))) ((signs ⟨l.toArray⟩)) []) fun ys16 =>
    ob (neG ys16 (([] : (List Str)))) fun v17 =>
    .ok v17)) K = K (!(decide (1 ≤ l.length ∧ l.length ≤ 2) && decide (∀ c ∈ l, c ∈ FIGL))) := fun K => by
    have : ∀ (m : R Bool) (b : Bool), R.bind m R.ok = .ok b → R.bind m K = K b := fun m b h => by
      cases m with
      | no => cases h
      | ex c => cases h
      | ok a => cases h; rfl
    exact this _ _ lk
  rw [lk2]
  match l, hw with
  | [], _ => rfl
  | [a], h1 =>
    by_cases ha : a ∈ FIGL
    · obtain ⟨i, hi⟩ := Option.isSome_iff_exists.mp (int_one a ha)
      rw [show decide (∀ c ∈ [a], c ∈ FIGL) = true from decide_eq_true (by simpa using ha), lenS_l (by simp)]
      show (if (!(decide (1 ≤ ([a] : List Nat).length ∧ ([a] : List Nat).length ≤ 2) && true)) = true then _ else _) = R.ok (if a ∈ FIGL then intText? ⟨#[a]⟩ else none)
      rw [if_neg (by simp), ob_some, if_neg (by simp), bind_ok, if_neg (by decide), if_pos ha, show intS ⟨[a].toArray⟩ = intText? ⟨#[a]⟩ from if_pos (show (1 : Nat) ≤ 640 by decide), hi, ob_some]
    · rw [show decide (∀ c ∈ [a], c ∈ FIGL) = false from decide_eq_false (by simpa using ha)]
      show _ = R.ok (if a ∈ FIGL then intText? ⟨#[a]⟩ else none)
      rw [if_neg ha]
      rfl
  | [a, b], h1 =>
    by_cases hf : a ∈ FIGL ∧ b ∈ FIGL
    · obtain ⟨i, hi⟩ := Option.isSome_iff_exists.mp (int_two a hf.1 b hf.2)
      rw [show decide (∀ c ∈ [a, b], c ∈ FIGL) = true from decide_eq_true (by simpa using hf), lenS_l (by simp), ix_l (by simp)]
      show (if (!(decide (1 ≤ ([a, b] : List Nat).length ∧ ([a, b] : List Nat).length ≤ 2) && true)) = true then _ else _) = R.ok (if a ∈ FIGL ∧ b ∈ FIGL ∧ a ≠ 48 then intText? ⟨#[a, b]⟩ else none)
      rw [if_neg (by simp), ob_some, if_pos (show decide ((([a, b] : List Nat).length : Int) = 2) = true from rfl), ob_some, TM.eqG_str, ob_some, bind_ok]
      by_cases h0 : a = 48
      · rw [decide_eq_true (one_ne.mpr h0), if_pos rfl, if_neg (show ¬(a ∈ FIGL ∧ b ∈ FIGL ∧ a ≠ 48) from fun z => z.2.2 h0)]
      · rw [decide_eq_false (fun z => h0 (one_ne.mp z)), if_neg (by decide), if_pos (show a ∈ FIGL ∧ b ∈ FIGL ∧ a ≠ 48 from ⟨hf.1, hf.2, h0⟩), show intS ⟨[a, b].toArray⟩ = intText? ⟨#[a, b]⟩ from if_pos (show (2 : Nat) ≤ 640 by decide), hi, ob_some]
    · rw [show decide (∀ c ∈ [a, b], c ∈ FIGL) = false from decide_eq_false (by simpa using hf)]
      rw [if_pos (by simp)]
      show _ = R.ok (if a ∈ FIGL ∧ b ∈ FIGL ∧ a ≠ 48 then intText? ⟨#[a, b]⟩ else none)
      rw [if_neg (show ¬(a ∈ FIGL ∧ b ∈ FIGL ∧ a ≠ 48) from fun z => hf ⟨z.1, z.2.1⟩)]
  | a :: b :: c :: r, h1 =>
    rw [show decide (1 ≤ (a :: b :: c :: r).length ∧ (a :: b :: c :: r).length ≤ 2) = false from decide_eq_false (by simp)]
    rfl
theorem int_ok {i : Int} (h : numV w = some i) : intS w = some i := by
  unfold numV at h
  rw [str_l w]
  generalize w.cps.toList = l at h
  match l, h with
  | [], h => cases h
  | [a], h =>
    have h : (if a ∈ FIGL then intText? ⟨#[a]⟩ else none) = some i := h
    split at h
    · exact (if_pos (show (1 : Nat) ≤ 640 by decide)).trans h
    · cases h
  | [a, b], h =>
    have h : (if a ∈ FIGL ∧ b ∈ FIGL ∧ a ≠ 48 then intText? ⟨#[a, b]⟩ else none) = some i := h
    split at h
    · exact (if_pos (show (2 : Nat) ≤ 640 by decide)).trans h
    · cases h
  | a :: b :: c :: r, h => cases h
end K78
set_option maxRecDepth 100000
namespace K78
open PySem VL VP TM D
open PySem.W (Datum Tup)
open PySem.W.Datum (toD)
open PySem.SeqAt (shaped)
open L2 (atI ixN cutS)
variable {n : Nat} {xs ys : List Int} {ll : List (List Int)} {ds : List PyData} {d : PyData} {t w : Str}
/-- all of them, or none -/
def allO {τ : Type} : List (Option τ) → Option (List τ)
  | [] => some []
  | o :: r => o.bind fun x => (allO r).map (x :: ·)
theorem allO_some {τ : Type} : ∀ {l : List (Option τ)} {xs : List τ}, allO l = some xs → l = xs.map some
  | [], xs, h => by cases h; rfl
  | none :: r, xs, h => by cases h
  | some x :: r, xs, h => by
    have h : (allO r).map (x :: ·) = some xs := h
    obtain ⟨ys, h1, rfl⟩ := Option.map_eq_some_iff.mp h
    rw [allO_some h1]
    rfl
theorem allO_none {τ : Type} : ∀ {l : List (Option τ)}, allO l = none → none ∈ l
  | [], h => by cases h
  | none :: r, _ => List.mem_cons_self
  | some x :: r, h => by
    have h : (allO r).map (x :: ·) = none := h
    have h1 : allO r = none := by
      cases q : allO r with
      | none => rfl
      | some y => rw [q] at h; cases h
    exact List.mem_cons_of_mem _ (allO_none h1)
theorem allO_len {τ : Type} {l : List (Option τ)} {xs : List τ} (h : allO l = some xs) : xs.length = l.length := by rw [allO_some h, List.length_map]
def words (t : Str) : List (Option Int) := (Txt.split t " ").map numV
/-- the order that is written so -/
def rd (t : Str) : Option (List Int) := (allO (words t)).bind fun xs => if ordB (toD xs) = true then some xs else none
theorem rd_ord {o : List Int} (h : rd t = some o) : ordB (toD o) = true := by
  unfold rd at h
  cases q : allO (words t) with
  | none => rw [q] at h; cases h
  | some xs =>
    rw [q, Option.bind_some] at h
    split at h
    · rename_i h2
      cases h
      exact h2
    · cases h
theorem sum_join (y : Str) : ∀ ps : List Str, (ps.map (·.length)).sum ≤ (Str.join y ps).length
  | [] => Nat.zero_le _
  | [p] => by simp [Str.join]
  | p :: q :: r => by
    have ih := sum_join y (q :: r)
    have e : (Str.join y (p :: q :: r)).length = p.length + y.length + (Str.join y (q :: r)).length := by
      show (p ++ y ++ Str.join y (q :: r)).length = _
      rw [len_l, app_cps, app_cps, List.length_append, List.length_append, ← len_l, ← len_l, ← len_l]
    rw [e, List.map_cons, List.sum_cons]
    omega
theorem split_sum (t y : Str) : ((Txt.split t y).map (·.length)).sum ≤ t.length := by
  have := sum_join y (Txt.split t y)
  rwa [StrLaws.join_split] at this
theorem split_len (t y : Str) : 1 ≤ (Txt.split t y).length ∧ (Txt.split t y).length ≤ t.length + 2 := by
  unfold Txt.split
  split
  · simp
  · split
    · simp
    · rw [PySem.length_partsBetween]
      have := StrLaws.occ_length_le_len t y 0 t.length (t.length + 1)
      omega
theorem sum_mem {x : Nat} : ∀ {l : List Nat}, x ∈ l → x ≤ l.sum
  | [], h => by cases h
  | y :: l, h => by
    rw [List.sum_cons]
    rcases List.mem_cons.mp h with rfl | h
    · omega
    · have := sum_mem h
      omega
theorem split_mem {t y p : Str} (h : p ∈ Txt.split t y) : p.length ≤ t.length :=
  Nat.le_trans (sum_mem (List.mem_map.mpr ⟨p, h, rfl⟩)) (split_sum t y)
theorem splitS_ok (h : t.length ≤ 300000) (y : Str) (hy : (y.length == 0) = false) : splitS t y = some (Txt.split t y) := if_pos ⟨hy, by unfold big; omega⟩
theorem bl0 : ((" " : Str).length == 0) = false := by decide +kernel
theorem cm0 : ((", " : Str).length == 0) = false := by decide +kernel
theorem getD_some {τ : Type} {l : List Str} {f : Str → Option τ} {xs : List τ} (h : allO (l.map f) = some xs) (d : τ) : (l.map fun w => (f w).getD d) = xs ∧ ∀ w ∈ l, ∃ x, f w = some x := by
  have e := allO_some h
  refine ⟨?_, fun w hw => ?_⟩
  · have e2 := congrArg (List.map fun o : Option τ => o.getD d) e
    rw [List.map_map, List.map_map] at e2
    have e3 : (List.map ((fun o : Option τ => o.getD d) ∘ some) xs) = xs := List.map_id' xs
    rw [e3] at e2
    exact e2
  · have : f w ∈ xs.map some := by rw [← e]; exact List.mem_map.mpr ⟨w, hw, rfl⟩
    obtain ⟨x, _, hx⟩ := List.mem_map.mp this
    exact ⟨x, hx.symm⟩
theorem read_order_ok (h : t.length ≤ 300000) : y_read_order (toD t) = match rd t with
    | some o => .ok o
    | none => .ex "NoText" := by
  obtain ⟨l1, l2⟩ := split_len t " "
  unfold y_read_order
  rw [show isD .str (toD t) = true from rfl, if_neg (by decide), show asS (toD t) = some t from rfl, ob_some, splitS_ok h _ bl0, ob_some,
    lcM_eq (step := fun (x3 : Str) => R.bind (m_is_number x3) fun v4 => if (!v4) = true then (.ok (some x3)) else (.ok none)) (fun w => !(numV w).isSome) (fun x => x) (by unfold big; omega) (fun w hw => by
      rw [is_number_ok (Nat.le_trans (split_mem hw) h), bind_ok]
      cases (numV w).isSome <;> rfl), bind_ok, List.map_id', neG_nil, ob_some]
  unfold rd words
  cases q : allO ((Txt.split t " ").map numV) with
  | none =>
    obtain ⟨w, hw, e⟩ := List.mem_map.mp (allO_none q)
    have hne : (Txt.split t " ").filter (fun w => !(numV w).isSome) ≠ [] := List.ne_nil_of_mem (List.mem_filter.mpr ⟨hw, by rw [e]; rfl⟩)
    rw [decide_eq_false hne, if_pos (by decide)]
    rfl
  | some xs =>
    obtain ⟨e1, e2⟩ := getD_some q 0
    have hnil : (Txt.split t " ").filter (fun w => !(numV w).isSome) = [] := List.filter_eq_nil_iff.mpr fun w hw => by
      obtain ⟨x, hx⟩ := e2 w hw
      rw [hx]
      exact Bool.false_ne_true
    rw [decide_eq_true hnil, if_neg (by decide), lcM_map (step := fun (x7 : Str) => ob (intS x7) fun v8 => .ok (some v8)) (fun w => (numV w).getD 0) (by unfold big; omega) (fun w hw => by
      obtain ⟨x, hx⟩ := e2 w hw
      rw [int_ok hx, ob_some, hx]
      rfl), bind_ok, e1, y_is_order_ok, bind_ok, Option.bind_some]
    cases ordB (toD xs) <;> rfl
theorem lay_opts : ∀ l : List (Option Int), PyData.canLayAll0 (l.map toD) = true
  | [] => by rw [List.map_nil, PyData.canLayAll0]
  | none :: l => by rw [List.map_cons, PyData.canLayAll0, lay_opts l]; rfl
  | some i :: l => by rw [List.map_cons, PyData.canLayAll0, lay_opts l]; rfl
theorem dep_opts : ∀ l : List (Option Int), PyData.depthAll (l.map toD) = 0
  | [] => by rw [List.map_nil, PyData.depthAll]
  | none :: l => by rw [List.map_cons, PyData.depthAll, dep_opts l]; rfl
  | some i :: l => by rw [List.map_cons, PyData.depthAll, dep_opts l]; rfl
theorem shaped_opts (l : List (Option Int)) : shaped (.list (l.map toD)) = true := by
  unfold shaped
  rw [PyData.canLay0, lay_opts, Bool.true_and, decide_eq_true_eq, PyData.depth, dep_opts]
  decide
theorem any_opts : ∀ l : List (Option Int), ((l.map toD).any fun z => PyData.eqv z (toD (() : Unit))) = decide ((none : Option Int) ∈ l)
  | [] => rfl
  | none :: l => by
    rw [List.map_cons, List.any_cons]
    rw [show PyData.eqv (toD (none : Option Int)) (toD (() : Unit)) = true from by decide +kernel, Bool.true_or, decide_eq_true List.mem_cons_self]
  | some i :: l => by
    rw [List.map_cons, List.any_cons, show PyData.eqv (toD (some i : Option Int)) (toD (() : Unit)) = false from rfl, Bool.false_or, any_opts l]
    exact decide_eq_decide.mpr (by simp)
/-- what the law reads -/
def lawD (t : Str) : PyData := match rd t with
  | some o => toD o
  | none => toD (() : Unit)
theorem law_read_ok (h : t.length ≤ 300000) : y__law_read t = .ok (lawD t) := by
  obtain ⟨l1, l2⟩ := split_len t " "
  unfold y__law_read
  rw [splitS_ok h _ bl0, ob_some, lcM_map (step := fun (x2 : Str) => R.bind (m__law_number x2) fun v3 => .ok (some v3)) numV (by unfold big; omega) (fun w hw => by rw [number_ok (Nat.le_trans (split_mem hw) h), bind_ok]), bind_ok]
  unfold lawD rd words
  generalize hos : (Txt.split t " ").map numV = os
  have hl : os.length = (Txt.split t " ").length := by rw [← hos, List.length_map]
  have e1 : asLY (toD os) = some (os.map toD) := rfl
  have e2 : inY (toD (() : Unit)) (os.map toD) = some (decide ((none : Option Int) ∈ os)) := by
    unfold inY
    rw [if_pos ⟨rfl, shaped_opts os⟩, any_opts]
  rw [e1, ob_some, e2, ob_some]
  cases q : allO os with
  | none =>
    rw [decide_eq_true (allO_none q), if_pos rfl, bind_ok, if_pos rfl]
    rfl
  | some xs =>
    have ex := allO_some q
    have hn : (none : Option Int) ∉ os := by
      rw [ex]
      intro z
      obtain ⟨x, _, hx⟩ := List.mem_map.mp z
      cases hx
    have em : os.map toD = xs.map (toD : Int → PyData) := by rw [ex, List.map_map]; rfl
    have e3 : asLI (toD os) = some xs := by
      show asInts (os.map toD) = some xs
      rw [em]
      exact TM.asInts_map xs
    have e4 : lenY (toD os) = some (xs.length : Int) := by
      show lenY (.list (os.map toD)) = _
      rw [em]
      show some (((xs.map (toD : Int → PyData)).length : Nat) : Int) = _
      rw [List.length_map]
    have e5 : (toD os : PyData) = toD xs := by
      show PyData.list (os.map toD) = .list (xs.map toD)
      rw [em]
    have hxl : xs.length = os.length := allO_len q
    rw [decide_eq_false hn, if_neg (by decide), e3, ob_some, e4, ob_some, lrg1_nat (by omega), ob_some, Option.bind_some]
    have hob : ordB (toD xs) = (decide (1 ≤ xs.length) && (decide (xs.length ≤ 12) && decide (IsOrd xs.length xs))) := by
      have := ordB_some (ds := xs.map toD) (TM.asInts_map xs)
      rw [List.length_map] at this
      exact this
    have hso : xs.mergeSort leI = iota xs.length ↔ IsOrd xs.length xs := ⟨fun z => by
      have p := List.mergeSort_perm xs leI
      rw [z] at p
      exact p.symm, fun z => sort_iota z⟩
    by_cases hi : IsOrd xs.length xs
    · rw [decide_eq_true (hso.mpr hi), if_neg (by decide), ob_some, bind_ok]
      by_cases h12 : xs.length ≤ 12
      · rw [decide_eq_false (by omega : ¬ (12 : Int) < (xs.length : Int)), if_neg (by decide), hob, decide_eq_true (by omega : 1 ≤ xs.length), decide_eq_true h12, decide_eq_true hi, if_pos (by decide), e5]
      · rw [decide_eq_true (by omega : (12 : Int) < (xs.length : Int)), if_pos rfl, hob, decide_eq_false h12, if_neg (by simp)]
    · rw [decide_eq_false (fun z => hi (hso.mp z)), if_pos (by decide), bind_ok, if_pos rfl, hob, decide_eq_false hi, if_neg (by simp)]
end K78
set_option maxRecDepth 100000
namespace K78
open PySem VL VP TM D
open PySem.W (Datum Tup)
open PySem.W.Datum (toD)
open PySem.SeqAt (shaped)
open L2 (atI ixN cutS)
variable {n : Nat} {xs ys : List Int} {ll : List (List Int)} {ds : List PyData} {d : PyData} {t w : Str}
theorem lcM_raise {σ τ υ : Type} {step : τ → R (Option υ)} {f : τ → Option υ} {c : Str} : ∀ (l : List τ) (acc : List υ), acc.length + l.length ≤ big → (∀ x ∈ l, step x = match f x with
    | some y => .ok (some y)
    | none => .ex c) → lcM step l acc = match allO (l.map f) with
    | some ys => .ok (acc ++ ys)
    | none => .ex c
  | [], acc, _, _ => by
    show R.ok acc = R.ok (acc ++ [])
    rw [List.append_nil]
  | x :: l, acc, hl, h => by
    rw [List.length_cons] at hl
    unfold lcM
    rw [h x List.mem_cons_self]
    show _ = match (f x).bind (fun y => (allO (l.map f)).map (y :: ·)) with
      | some ys => R.ok (acc ++ ys)
      | none => .ex c
    cases q : f x with
    | none => rfl
    | some y =>
      show (if acc.length < big then lcM step l (acc ++ [y]) else .no) = _
      rw [if_pos (by omega), lcM_raise (σ := σ) l (acc ++ [y]) (by rw [List.length_append, List.length_singleton]; omega) fun z hz => h z (List.mem_cons_of_mem _ hz), Option.bind_some]
      cases allO (l.map f) with
      | none => rfl
      | some ys =>
        show R.ok (acc ++ [y] ++ ys) = R.ok (acc ++ (y :: ys))
        rw [List.append_assoc]
        rfl
def parts (t : Str) : List Str := Txt.split t ", "
/-- the list that is written so -/
def rdL (t : Str) : Option (List (List Int)) := if t = "-" then some [] else (allO ((parts t).map rd)).bind fun ll => if ordsB (ll.map toD) = true then some ll else none
theorem read_orders_ok (h : t.length ≤ 300000) (hp : (parts t).length ≤ 1000) : y_read_orders (toD t) = match rdL t with
    | some ll => .ok ll
    | none => .ex "NoText" := by
  have hb : big = 1000000 := rfl
  unfold y_read_orders rdL
  rw [show isD .str (toD t) = true from rfl, if_neg (by decide), show asS (toD t) = some t from rfl, ob_some, TM.eqG_str, ob_some]
  by_cases q : t = "-"
  · rw [decide_eq_true q, if_pos rfl, if_pos q]
  · rw [decide_eq_false q, if_neg (by decide), if_neg q, splitS_ok h _ cm0, ob_some]
    have hpl : (parts t).length = (Txt.split t ", ").length := rfl
    rw [lcM_raise (σ := Unit) (f := rd) (c := "NoText") (Txt.split t ", ") [] (by simp; omega) (fun x hx => by
      rw [read_order_ok (Nat.le_trans (split_mem hx) h)]
      cases rd x <;> rfl)]
    show _ = match (allO ((Txt.split t ", ").map rd)).bind (fun ll : List (List Int) => if ordsB (ll.map toD) = true then some ll else none) with
      | some ll => R.ok ll
      | none => .ex "NoText"
    cases q2 : allO ((Txt.split t ", ").map rd) with
    | none => rfl
    | some ll =>
      have hl := allO_len q2
      rw [List.length_map] at hl
      show R.bind (R.ok ([] ++ ll)) _ = _
      rw [List.nil_append, bind_ok, show (toD ll : PyData) = .list (ll.map toD) from rfl, is_orders_ok (by rw [List.length_map]; omega), bind_ok, Option.bind_some]
      cases ordsB (ll.map toD) <;> rfl
def lawL (t : Str) : PyData := match rdL t with
  | some ll => toD ll
  | none => toD (() : Unit)
theorem lay_some (o : List Int) : PyData.canLay0 (toD o) = true ∧ PyData.depth (toD o) ≤ 1 := ⟨Lay.lay o, Datum.depth_le o⟩
theorem law_lay : ∀ l : List (Option (List Int)), PyData.canLayAll0 (l.map fun o => (match o with
    | some o => toD o
    | none => toD (() : Unit) : PyData)) = true ∧ PyData.depthAll (l.map fun o => (match o with
    | some o => toD o
    | none => toD (() : Unit) : PyData)) ≤ 1
  | [] => ⟨by rw [List.map_nil, PyData.canLayAll0], by rw [List.map_nil, PyData.depthAll]; exact Nat.zero_le _⟩
  | none :: l => by
    obtain ⟨a, b⟩ := law_lay l
    refine ⟨by rw [List.map_cons, PyData.canLayAll0, a]; rfl, ?_⟩
    rw [List.map_cons, PyData.depthAll]
    exact Nat.max_le.mpr ⟨by show PyData.depth .none ≤ 1; decide, b⟩
  | some o :: l => by
    obtain ⟨a, b⟩ := law_lay l
    refine ⟨by rw [List.map_cons, PyData.canLayAll0, a]; show (PyData.canLay0 (toD o) && true) = true; rw [(lay_some o).1]; rfl, ?_⟩
    rw [List.map_cons, PyData.depthAll]
    exact Nat.max_le.mpr ⟨(lay_some o).2, b⟩
theorem law_any : ∀ l : List (Option (List Int)), ((l.map fun o => (match o with
    | some o => toD o
    | none => toD (() : Unit) : PyData)).any fun z => PyData.eqv z (toD (() : Unit))) = decide ((none : Option (List Int)) ∈ l)
  | [] => rfl
  | none :: l => by
    rw [List.map_cons, List.any_cons]
    rw [show PyData.eqv (toD (() : Unit)) (toD (() : Unit)) = true from by decide +kernel, Bool.true_or, decide_eq_true List.mem_cons_self]
  | some o :: l => by
    rw [List.map_cons, List.any_cons, show PyData.eqv (toD o) (toD (() : Unit)) = false from rfl, Bool.false_or, law_any l]
    exact decide_eq_decide.mpr (by simp)
theorem law_read_list_ok (h : t.length ≤ 300000) (hp : (parts t).length ≤ 1000) : y__law_read_list t = .ok (lawL t) := by
  have hb : big = 1000000 := rfl
  unfold y__law_read_list lawL rdL
  rw [TM.eqG_str, ob_some]
  by_cases q : t = "-"
  · rw [decide_eq_true q, if_pos rfl, if_pos q]
    rfl
  · have hpl : (parts t).length = (Txt.split t ", ").length := rfl
    rw [decide_eq_false q, if_neg (by decide), if_neg q, splitS_ok h _ cm0, ob_some, lcM_map (step := fun (x3 : Str) => R.bind (y__law_read x3) fun v4 => .ok (some v4)) lawD (by omega) (fun x hx => by rw [law_read_ok (Nat.le_trans (split_mem hx) h), bind_ok]), bind_ok]
    have em : (Txt.split t ", ").map lawD = ((Txt.split t ", ").map rd).map fun o => (match o with
      | some o => toD o
      | none => toD (() : Unit) : PyData) := by rw [List.map_map]; rfl
    show _ = R.ok (match (allO ((Txt.split t ", ").map rd)).bind (fun ll : List (List Int) => if ordsB (ll.map toD) = true then some ll else none) with
      | some ll => toD ll
      | none => toD (() : Unit))
    rw [em]
    generalize hos : (Txt.split t ", ").map rd = os
    have hol : os.length ≤ 1000 := by rw [← hos, List.length_map]; omega
    have hsh : inY (toD (() : Unit)) (os.map fun o => (match o with
      | some o => toD o
      | none => toD (() : Unit) : PyData)) = some (decide ((none : Option (List Int)) ∈ os)) := by
      unfold inY
      obtain ⟨a, b⟩ := law_lay os
      rw [if_pos ⟨rfl, by
        unfold shaped
        rw [PyData.canLay0, a, Bool.true_and, decide_eq_true_eq, PyData.depth]
        omega⟩, law_any]
    rw [hsh, ob_some]
    cases q2 : allO os with
    | none =>
      rw [decide_eq_true (allO_none q2), if_pos rfl, bind_ok]
      rfl
    | some ll =>
      have ex := allO_some q2
      have hn : (none : Option (List Int)) ∉ os := by
        rw [ex]
        intro z
        obtain ⟨x, _, hx⟩ := List.mem_map.mp z
        cases hx
      have hall : (ll.map (toD : List Int → PyData)).all ordB = true := by
        rw [List.all_eq_true]
        intro x hx
        obtain ⟨o, ho, rfl⟩ := List.mem_map.mp hx
        have : some o ∈ os := by rw [ex]; exact List.mem_map.mpr ⟨o, ho, rfl⟩
        rw [← hos] at this
        obtain ⟨p, _, hp2⟩ := List.mem_map.mp this
        exact rd_ord hp2
      have e2 : (os.map fun o => (match o with
        | some o => toD o
        | none => toD (() : Unit) : PyData)) = ll.map toD := by rw [ex, List.map_map]; rfl
      have hll : ll.length ≤ 1000 := by rw [allO_len q2]; exact hol
      rw [decide_eq_false hn, if_neg (by decide), e2, lens_ok (by rw [List.length_map]; exact hll) hall (fun x => rfl), bind_ok, mapId, show (([] : List PyData).map idD) = [] from rfl, neY_nil, ob_some, bind_ok, filt_isE, mapId, Option.bind_some]
      have hob : ordsB (ll.map toD) = ((ll.map (toD : List Int → PyData)).all fun x => decide (lenD x = lenD ((ll.map (toD : List Int → PyData)).headD .none))) := by
        unfold ordsB
        rw [hall, Bool.true_and]
      have e3 : ((ll.map (toD : List Int → PyData)).all fun x => !!decide (lenD x = lenD ((ll.map (toD : List Int → PyData)).headD .none))) = ordsB (ll.map toD) := by
        rw [hob]
        congr 1
        funext x
        exact Bool.not_not _
      rw [e3]
      cases ordsB (ll.map toD) <;> rfl
theorem asked_read_ok {o : List Int} (h : y_read_order d = .ok o) : y__law_asked "read" d = .ok ("told", toD o) := by
  unfold y__law_asked
  rw [TM.eqG_str, decide_eq_false (by decide), ob_some, if_neg (by decide), TM.eqG_str, decide_eq_false (by decide), ob_some, if_neg (by decide), TM.eqG_str, decide_eq_true rfl, ob_some, if_pos rfl, h]
  rfl
theorem asked_read_ex (h : y_read_order d = .ex "NoText") : y__law_asked "read" d = .ok ("NoText", toD (() : Unit)) := by
  unfold y__law_asked
  rw [TM.eqG_str, decide_eq_false (by decide), ob_some, if_neg (by decide), TM.eqG_str, decide_eq_false (by decide), ob_some, if_neg (by decide), TM.eqG_str, decide_eq_true rfl, ob_some, if_pos rfl, h]
  kernel_rfl
theorem asked_reads_ok {o : List (List Int)} (h : y_read_orders d = .ok o) : y__law_asked "reads" d = .ok ("told", toD o) := by
  unfold y__law_asked
  rw [TM.eqG_str, decide_eq_false (by decide), ob_some, if_neg (by decide), TM.eqG_str, decide_eq_false (by decide), ob_some, if_neg (by decide), TM.eqG_str, decide_eq_false (by decide), ob_some, if_neg (by decide), h]
  rfl
theorem asked_reads_ex (h : y_read_orders d = .ex "NoText") : y__law_asked "reads" d = .ok ("NoText", toD (() : Unit)) := by
  unfold y__law_asked
  rw [TM.eqG_str, decide_eq_false (by decide), ob_some, if_neg (by decide), TM.eqG_str, decide_eq_false (by decide), ob_some, if_neg (by decide), TM.eqG_str, decide_eq_false (by decide), ob_some, if_neg (by decide), h]
  kernel_rfl
theorem shaped_two {α : Type} [DecidableEq α] [Datum α] [Lay α] {s : Str} (hs : PyData.strOk s = true) (hd : Datum.depth α ≤ 60) (a : α) : PyData.canLay0 (.tuple [.str s, toD a]) = true ∧ shaped (.tuple [.str s, toD a]) = true := by
  have c : PyData.canLay0 (.tuple [.str s, toD a]) = true := by
    rw [PyData.canLay0, PyData.canLayAll0, PyData.canLayAll0, PyData.canLayAll0, Lay.lay a, PyData.canLay0, hs]
    rfl
  refine ⟨c, ?_⟩
  unfold shaped
  rw [c, Bool.true_and, decide_eq_true_eq, PyData.depth, PyData.depthAll, PyData.depthAll, PyData.depthAll]
  have h1 := Datum.depth_le a
  have h2 : PyData.depth (.str s) ≤ 1 := by rw [PyData.depth]; decide
  omega
theorem same_two {α : Type} [DecidableEq α] [Datum α] [Lay α] {s : Str} (hs : PyData.strOk s = true) (hd : Datum.depth α ≤ 60) (a : α) : neY (.tuple [.str s, toD a]) (.tuple [.str s, toD a]) = some false ∧ eqY (.tuple [.str s, toD a]) (.tuple [.str s, toD a]) = some true := by
  obtain ⟨c, e⟩ := shaped_two hs hd a
  unfold neY eqY
  rw [if_pos ⟨e, e⟩, if_pos ⟨e, e⟩, PySem.SeqAt.eqv_refl _ c]
  exact ⟨rfl, rfl⟩
theorem texts_right_ok (h : t.length ≤ 300000) (hp : (parts t).length ≤ 1000) : m__law_texts_right t = .ok true := by
  unfold m__law_texts_right
  have hr := read_order_ok h
  have hrs := read_orders_ok h hp
  rw [law_read_ok h, bind_ok]
  unfold lawD at *
  have part1 : ∀ K : R Bool, (R.bind (y__law_asked (("read" : Str)) ((toD (t : Str)))) fun v3 =>
      ob (atI ([("told" : Str), ("NoText" : Str)]) ((b2i ((isNone (match rd t with
        | some o => toD o
        | none => toD (() : Unit))))))) fun v4 =>
      ob (neY ((PyData.tuple [(toD (v3.1 : Str)), v3.2])) ((PyData.tuple [(toD (((v4, (match rd t with
        | some o => toD o
        | none => toD (() : Unit) : PyData))).1 : Str)), ((v4, (match rd t with
        | some o => toD o
        | none => toD (() : Unit) : PyData))).2]))) fun v5 =>
      if v5 = true then (.ok false) else K) = K := fun K => by
    cases q : rd t with
    | none =>
      rw [q] at hr
      rw [asked_read_ex hr, bind_ok]
      show ob (atI ([("told" : Str), ("NoText" : Str)]) (1 : Int)) _ = _
      rw [show atI ([("told" : Str), ("NoText" : Str)]) (1 : Int) = some ("NoText" : Str) from rfl, ob_some]
      show ob (neY (PyData.tuple [.str "NoText", toD (() : Unit)]) (PyData.tuple [.str "NoText", toD (() : Unit)])) _ = _
      rw [show neY (PyData.tuple [.str "NoText", toD (() : Unit)]) (PyData.tuple [.str "NoText", toD (() : Unit)]) = some false from by decide +kernel, ob_some, if_neg (by decide)]
    | some o =>
      rw [q] at hr
      rw [asked_read_ok hr, bind_ok]
      show ob (atI ([("told" : Str), ("NoText" : Str)]) (0 : Int)) _ = _
      rw [show atI ([("told" : Str), ("NoText" : Str)]) (0 : Int) = some ("told" : Str) from rfl, ob_some]
      show ob (neY (PyData.tuple [.str "told", toD o]) (PyData.tuple [.str "told", toD o])) _ = _
      rw [(same_two (s := "told") (by decide +kernel) (by decide) o).1, ob_some, if_neg (by decide)]
  refine (part1 _).trans ?_
  rw [law_read_list_ok h hp, bind_ok]
  unfold lawL
  cases q : rdL t with
  | none =>
    rw [q] at hrs
    rw [asked_reads_ex hrs, bind_ok]
    show ob (atI ([("told" : Str), ("NoText" : Str)]) (1 : Int)) _ = _
    rw [show atI ([("told" : Str), ("NoText" : Str)]) (1 : Int) = some ("NoText" : Str) from rfl, ob_some]
    show ob (eqY (PyData.tuple [.str "NoText", toD (() : Unit)]) (PyData.tuple [.str "NoText", toD (() : Unit)])) _ = _
    rw [show eqY (PyData.tuple [.str "NoText", toD (() : Unit)]) (PyData.tuple [.str "NoText", toD (() : Unit)]) = some true from by decide +kernel, ob_some]
  | some ll =>
    rw [q] at hrs
    rw [asked_reads_ok hrs, bind_ok]
    show ob (atI ([("told" : Str), ("NoText" : Str)]) (0 : Int)) _ = _
    rw [show atI ([("told" : Str), ("NoText" : Str)]) (0 : Int) = some ("told" : Str) from rfl, ob_some]
    show ob (eqY (PyData.tuple [.str "told", toD ll]) (PyData.tuple [.str "told", toD ll])) _ = _
    rw [(same_two (s := "told") (by decide +kernel) (by decide) ll).2, ob_some]
end K78
set_option maxRecDepth 100000
namespace K78
open PySem VL VP TM D
open PySem.W (Datum Tup)
open PySem.W.Datum (toD)
open PySem.SeqAt (shaped)
open L2 (atI ixN cutS)
variable {n : Nat} {xs ys : List Int} {ll : List (List Int)} {ds : List PyData} {d : PyData}
variable {ts : List Str}
theorem sto_of (s : String) : StO s.toList.length (Str.ofString s) := by
  rw [Str.ofString_eq_toList]
  refine ⟨fun c hc => ?_, by simp⟩
  obtain ⟨ch, _, rfl⟩ := List.mem_map.mp (by simpa using hc)
  have := ch.valid
  rcases this with h | h
  · have : ch.toNat < 0xd800 := h
    omega
  · have : ch.toNat < 0x110000 := h.2
    exact this
theorem sto_len {s : Str} {w v : Nat} (h : StO w s) (hl : s.length ≤ v) : StO v s := ⟨h.1, by rw [Array.length_toList]; exact hl⟩
theorem sto_int {i : Int} (h : i.natAbs < 10 ^ 30) : StO 31 (PyData.shown (.int i)) := by
  have hl := len_int h
  have e : PyData.shown (.int i) = Str.ofString (toString i) := by unfold PyData.shown; rfl
  rw [e] at hl ⊢
  exact sto_len (sto_of _) hl
theorem strS_int {i : Int} (h : i.natAbs < 10 ^ 30) : ∃ z, strS (toD i) = some z ∧ StO 31 z := by
  refine ⟨_, ?_, sto_int h⟩
  have hl : i.natAbs.log2 < 1920 := by
    by_cases h0 : i.natAbs = 0
    · rw [h0]; decide
    · exact (Nat.log2_lt h0).mpr (Nat.lt_of_lt_of_le h (by decide))
  have e : oStr (toD i) = some (.fr (.str (toString i : String))) := by
    show (if i.natAbs.log2 < 1920 then _ else _) = _
    rw [if_pos hl]
  unfold strS
  rw [e]
  unfold PyData.shown
  rfl
theorem app_len (a b : Str) : (a ++ b).length = a.length + b.length := by rw [len_l, app_cps, List.length_append, ← len_l, ← len_l]
theorem addS_o {a b : Str} (h : a.length + b.length ≤ 1000000) : addS a b = some (a ++ b) := if_pos h
theorem cutS_len (z : Str) (lo hi : Option Int) : (cutS z lo hi).length ≤ z.length := by rw [len_l, cutS_cps, len_l]; exact cut_len _ _ _
theorem slS_o {z : Str} (h : z.length ≤ 1000000) (lo hi : Option Int) : slS z lo hi = some (cutS z lo hi) := if_pos h
theorem ixS_o {z : Str} (h : z.length ≤ 1000000) {i : Int} (h0 : 0 ≤ i) (h1 : i < z.length) : ∃ r, ixS z i = some r ∧ r.length = 1 := by
  refine ⟨⟨#[z.cps.toList[i.toNat]'(by rw [← len_l]; omega)]⟩, ?_, rfl⟩
  unfold ixS
  rw [if_pos (show z.length ≤ big from h), at_of h0 (by rw [← len_l]; exact h1)]
  rfl
def Wd (S N : Nat) (ws : List Str) : Prop := (ws.map (·.length)).sum ≤ S ∧ ws.length ≤ N
theorem wd_mem {S N : Nat} {ws : List Str} (h : Wd S N ws) {w : Str} (hw : w ∈ ws) : w.length ≤ S := Nat.le_trans (sum_mem (List.mem_map.mpr ⟨w, hw, rfl⟩)) h.1
theorem sum_set : ∀ (l : List Nat) (i v : Nat), (l.set i v).sum ≤ l.sum + v
  | [], i, v => by simp
  | x :: l, 0, v => by simp only [List.set_cons_zero, List.sum_cons]; omega
  | x :: l, i + 1, v => by
    have := sum_set l i v
    simp only [List.set_cons_succ, List.sum_cons]
    omega
theorem wd_set {S N : Nat} {ws : List Str} (h : Wd S N ws) (i : Nat) (v : Str) : Wd (S + v.length) N (ws.set i v) := ⟨by
  rw [List.map_set]
  exact Nat.le_trans (sum_set _ _ _) (Nat.add_le_add_right h.1 _), by rw [List.length_set]; exact h.2⟩
theorem wd_ins {S N : Nat} {ws : List Str} (h : Wd S N ws) (i : Nat) (v : Str) : Wd (S + v.length) (N + 1) (ws.take i ++ [v] ++ ws.drop i) := by
  have e : (ws.map (·.length)).sum = ((ws.take i).map (·.length)).sum + ((ws.drop i).map (·.length)).sum := by rw [← List.sum_append, ← List.map_append, List.take_append_drop]
  have l : ws.length = (ws.take i).length + (ws.drop i).length := by rw [← List.length_append, List.take_append_drop]
  obtain ⟨h1, h2⟩ := h
  refine ⟨?_, ?_⟩
  · rw [List.map_append, List.map_append, List.sum_append, List.sum_append]
    simp only [List.map_cons, List.map_nil, List.sum_cons, List.sum_nil]
    omega
  · rw [List.length_append, List.length_append, List.length_singleton]
    omega
theorem sum_erase : ∀ (l : List Nat) (i : Nat), (l.eraseIdx i).sum ≤ l.sum
  | [], i => by simp
  | x :: l, 0 => by simp only [List.eraseIdx_cons_zero, List.sum_cons]; omega
  | x :: l, i + 1 => by
    have := sum_erase l i
    simp only [List.eraseIdx_cons_succ, List.sum_cons]
    omega
theorem map_erase : ∀ (l : List Str) (i : Nat), (l.eraseIdx i).map (·.length) = (l.map (·.length)).eraseIdx i
  | [], i => by simp
  | x :: l, 0 => by simp
  | x :: l, i + 1 => by simp only [List.eraseIdx_cons_succ, List.map_cons, map_erase l i]
theorem wd_del {S N : Nat} {ws : List Str} (h : Wd S N ws) (i : Nat) : Wd S N (ws.eraseIdx i) := ⟨by
  rw [map_erase]
  exact Nat.le_trans (sum_erase _ _) h.1, Nat.le_trans (List.length_eraseIdx_le _ _) h.2⟩
theorem wd_app {S N : Nat} {ws : List Str} (h : Wd S N ws) (v : Str) : Wd (S + v.length) (N + 1) (ws ++ [v]) := by
  obtain ⟨h1, h2⟩ := h
  refine ⟨?_, by rw [List.length_append, List.length_singleton]; omega⟩
  rw [List.map_append, List.sum_append]
  simp only [List.map_cons, List.map_nil, List.sum_cons, List.sum_nil]
  omega
theorem join_wd {S N : Nat} {ws : List Str} (h : Wd S N ws) (hb : S + N ≤ 1000000) : joinS " " ws = some (Str.join " " ws) ∧ (Str.join " " ws).length ≤ S + N := by
  obtain ⟨h1, h2⟩ := h
  have h3 : ((" " : Str)).length = 1 := by decide +kernel
  refine ⟨if_pos (by rw [h3]; unfold big; omega), ?_⟩
  rw [← TL.join_eq]
  show (Builtin.Str.glued " " ws).length ≤ _
  rw [PySem.size_glued, h3]
  omega
end K78
set_option maxRecDepth 100000
namespace K78
open PySem VL VP TM D
open PySem.W (Datum Tup)
open PySem.W.Datum (toD)
open PySem.SeqAt (shaped)
open L2 (atI ixN cutS)
variable {n : Nat} {t w : Str} {p : List Int} {c : Nat}
theorem repl_o {v : Str} (h : v.length ≤ 1000000) : ∃ r, replT "," "" v = some r ∧ r.length ≤ v.length := by
  have h0 : ("" : Str).length = 0 := by decide +kernel
  refine ⟨_, if_pos (by rw [h0]; omega), ?_⟩
  have := TK.replace_len v "," ""
  rw [h0] at this
  omega
theorem changed_ok {L : Nat} (hp : PkOk c p) (hc : c ≤ 90000) (ht : t.length ≤ L) (hL : L ≤ 200000) : Sat (m__law_changed p t) fun r => r.1.length ≤ 4 * L + 200 ∧ PkOk (c + 12) r.2 := by
  have hb : big = 1000000 := rfl
  unfold m__law_changed
  have hs1 : addS (("  ,,0123456789-\n\t.;:+!\"#$&'()*/<=>?@ABCDEFGHIJKLMNOPQRSTUVWXYZ" : Str)) (("[\\]^_`abcdefghijklmnopqrstuvwxyz{|}~" : Str)) = some (("  ,,0123456789-\n\t.;:+!\"#$&'()*/<=>?@ABCDEFGHIJKLMNOPQRSTUVWXYZ" : Str) ++ ("[\\]^_`abcdefghijklmnopqrstuvwxyz{|}~" : Str)) := addS_o (by decide +kernel)
  rw [hs1, ob_some]
  generalize hsg : (("  ,,0123456789-\n\t.;:+!\"#$&'()*/<=>?@ABCDEFGHIJKLMNOPQRSTUVWXYZ" : Str) ++ ("[\\]^_`abcdefghijklmnopqrstuvwxyz{|}~" : Str)) = sg
  have hsl : 14 ≤ sg.length ∧ sg.length ≤ 1000 := by rw [← hsg]; decide +kernel
  rw [show lenS sg = some (sg.length : Int) from if_pos (show sg.length ≤ big by omega), ob_some]
  refine sat_bind (take_sat hp (by omega) (by decide) (by decide)) fun r3 ⟨a3, b3, k3⟩ => ?_
  obtain ⟨m, hm, m0, m1⟩ : ∃ m : Int, atI ([(14 : Int), (sg.length : Int)]) r3.1 = some m ∧ 0 < m ∧ m ≤ sg.length := by
    have : r3.1 = 0 ∨ r3.1 = 1 := by omega
    rcases this with e | e
    · exact ⟨14, by rw [e]; rfl, by decide, by omega⟩
    · exact ⟨sg.length, by rw [e]; rfl, by omega, by omega⟩
  rw [hm, ob_some]
  refine sat_bind (take_sat k3 (by omega) m0 (by omega)) fun r5 ⟨a5, b5, k5⟩ => ?_
  obtain ⟨sign, hsi, hsl1⟩ := ixS_o (z := sg) (i := r5.1) (by omega) a5 (by omega)
  rw [hsi, ob_some, show lenS t = some (t.length : Int) from if_pos (show t.length ≤ big by omega), ob_some]
  refine sat_bind (take_sat k5 (by omega) (by omega) (by omega)) fun r8 ⟨a8, b8, k8⟩ => ?_
  refine sat_bind (take_sat k8 (by omega) (by decide) (by decide)) fun r9 ⟨a9, b9, k9⟩ => ?_
  obtain ⟨l1, l2⟩ := split_len t " "
  have hsum := split_sum t " "
  rw [splitS_ok (by omega) _ bl0, ob_some]
  have hwd : Wd L (L + 2) (Txt.split t " ") := ⟨by omega, by omega⟩
  generalize Txt.split t " " = ws at l1 l2 hwd
  refine sat_bind (take_sat k9 (by omega) (by omega) (by omega)) fun r11 ⟨a11, b11, k11⟩ => ?_
  refine sat_bind (take_sat k11 (by omega) (by omega) (by omega)) fun r12 ⟨a12, b12, k12⟩ => ?_
  obtain ⟨way, p9⟩ := r9
  obtain ⟨k, p11⟩ := r11
  obtain ⟨o, p12⟩ := r12
  dsimp only at a9 b9 k9 a11 b11 k11 a12 b12 k12 ⊢
  have tb : t.length ≤ 1000000 := by omega
  have c1 := fun lo hi => cutS_len t lo hi
  have hk : ws[k.toNat]'(by omega) ∈ ws := List.getElem_mem _
  have ho : ws[o.toNat]'(by omega) ∈ ws := List.getElem_mem _
  have lk := wd_mem hwd hk
  have lo := wd_mem hwd ho
  have fin : ∀ {S N : Nat} {ws' : List Str} {q : List Int}, Wd S N ws' → S + N ≤ 4 * L + 200 → PkOk (c + 12) q → Sat (ob (joinS " " ws') fun v79 => R.ok ((v79, q))) fun r => r.1.length ≤ 4 * L + 200 ∧ PkOk (c + 12) r.2 := fun {S N ws' q} h1 h2 h3 => by
    obtain ⟨j1, j2⟩ := join_wd h1 (by omega)
    rw [j1, ob_some]
    exact sat_ok ⟨by dsimp only; omega, h3⟩
  have hway : way = 0 ∨ way = 1 ∨ way = 2 ∨ way = 3 ∨ way = 4 ∨ way = 5 ∨ way = 6 ∨ way = 7 ∨ way = 8 ∨ way = 9 ∨ way = 10 ∨ way = 11 := by omega
  have two : ∀ (w : Int), (w < 2) → Sat (ob (slS t none (some r8.1)) fun v13 => ob (addS v13 sign) fun v14 => ob (slS t (some (r8.1 + w)) none) fun v15 => ob (addS v14 v15) fun v16 => R.ok ((v16, p12))) fun r => r.1.length ≤ 4 * L + 200 ∧ PkOk (c + 12) r.2 := fun w _ => by
    have e1 := c1 none (some r8.1)
    have e2 := c1 (some (r8.1 + w)) none
    rw [slS_o tb, ob_some, addS_o (by omega), ob_some, slS_o tb, ob_some, addS_o (by rw [app_len]; omega), ob_some]
    exact sat_ok ⟨by dsimp only; rw [app_len, app_len]; omega, k12.mono (by omega)⟩
  have kp : PkOk (c + 12) p12 := k12.mono (by omega)
  rcases hway with rfl | rfl | rfl | rfl | rfl | rfl | rfl | rfl | rfl | rfl | rfl | rfl
  · rw [if_pos (by simp)]
    exact two 0 (by decide)
  · rw [if_pos (by simp)]
    exact two 1 (by decide)
  · have e1 := c1 none (some r8.1)
    have e2 := c1 (some (r8.1 + 1)) none
    rw [if_neg (by simp), if_pos (by simp), slS_o tb, ob_some, slS_o tb, ob_some, addS_o (by omega), ob_some]
    exact sat_ok ⟨by dsimp only; rw [app_len]; omega, kp⟩
  · rw [if_neg (by simp), if_neg (by simp), if_pos (by simp), at_of a11 b11, ob_some, at_of a12 b12, ob_some, setI_of a11 b11, ob_some, setI_of a12 (by rw [List.length_set]; exact b12), ob_some, bind_ok]
    rw [if_neg (by simp), bind_ok, if_neg (by simp), bind_ok, if_neg (by simp), bind_ok]
    dsimp only
    rw [if_neg (by simp), bind_ok, if_neg (by simp), bind_ok, if_neg (by simp), bind_ok, if_neg (by simp), bind_ok]
    dsimp only
    rw [if_neg (by simp)]
    exact fin (wd_set (wd_set hwd _ _) _ _) (by omega) kp
  · rw [if_neg (by simp), if_neg (by simp), if_neg (by simp), bind_ok, if_pos (by simp), at_of a12 b12, ob_some, insL_of a11 (by omega) (by omega), ob_some, bind_ok]
    rw [if_neg (by simp), bind_ok, if_neg (by simp), bind_ok]
    dsimp only
    rw [if_neg (by simp), bind_ok, if_neg (by simp), bind_ok, if_neg (by simp), bind_ok, if_neg (by simp), bind_ok]
    dsimp only
    rw [if_neg (by simp)]
    exact fin (wd_ins hwd _ _) (by omega) kp
  · rw [if_neg (by simp), if_neg (by simp), if_neg (by simp), bind_ok, if_neg (by simp), bind_ok, if_pos (by simp), popI_of a11 b11 (by omega), ob_some, bind_ok]
    rw [if_neg (by simp), bind_ok]
    dsimp only
    rw [if_neg (by simp), bind_ok, if_neg (by simp), bind_ok, if_neg (by simp), bind_ok, if_neg (by simp), bind_ok]
    dsimp only
    rw [if_neg (by simp)]
    exact fin (wd_del hwd _) (by omega) kp
  · rw [if_neg (by simp), if_neg (by simp), if_neg (by simp), bind_ok, if_neg (by simp), bind_ok, if_neg (by simp), bind_ok, if_pos (by simp)]
    refine sat_bind (Q := fun s : (List Int × List Str) => PkOk (c + 9) s.1 ∧ Wd (L + 31) (L + 2) s.2) ?_ fun s ⟨s1, s2⟩ => ?_
    · refine sat_bind (take_sat k12 (by omega) (by decide) (by decide)) fun r43 ⟨a43, b43, k43⟩ => ?_
      obtain ⟨m, hm, m0, m1⟩ : ∃ m : Int, atI ([(14 : Int), (200 : Int), ((10 : Int) ^ ((25 : Int)).toNat)]) r43.1 = some m ∧ 0 < m ∧ m ≤ 10 ^ 25 := by
        have : r43.1 = 0 ∨ r43.1 = 1 ∨ r43.1 = 2 := by omega
        rcases this with e | e | e
        · exact ⟨14, by rw [e]; rfl, by decide, by decide⟩
        · exact ⟨200, by rw [e]; rfl, by decide, by decide⟩
        · exact ⟨10 ^ 25, by rw [e]; rfl, by decide, by decide⟩
      rw [hm, ob_some]
      refine sat_bind (take_sat k43 (by omega) m0 (by omega)) fun r45 ⟨a45, b45, k45⟩ => ?_
      obtain ⟨z, hz, hzl⟩ := strS_int (i := r45.1) (by omega)
      rw [hz, ob_some, setI_of a11 b11, ob_some]
      have hz2 : z.length ≤ 31 := by rw [len_l]; exact hzl.2
      have w2 := wd_set hwd k.toNat z
      exact sat_ok ⟨k45.mono (by omega), ⟨by have := w2.1; dsimp only; omega, w2.2⟩⟩
    · rw [if_neg (by simp), bind_ok, if_neg (by simp), bind_ok, if_neg (by simp), bind_ok, if_neg (by simp), bind_ok]
      dsimp only
      rw [if_neg (by simp)]
      exact fin s2 (by omega) (s1.mono (by omega))
  · rw [if_neg (by simp), if_neg (by simp), if_neg (by simp), bind_ok, if_neg (by simp), bind_ok, if_neg (by simp), bind_ok, if_neg (by simp), bind_ok]
    dsimp only
    have h0 : ("0" : Str).length = 1 := by decide +kernel
    rw [if_pos (by simp), at_of a11 b11, ob_some, addS_o (by omega), ob_some, setI_of a11 b11, ob_some, bind_ok]
    rw [if_neg (by simp), bind_ok, if_neg (by simp), bind_ok, if_neg (by simp), bind_ok]
    dsimp only
    rw [if_neg (by simp)]
    exact fin (wd_set hwd _ _) (by rw [app_len]; omega) kp
  · rw [if_neg (by simp), if_neg (by simp), if_neg (by simp), bind_ok, if_neg (by simp), bind_ok, if_neg (by simp), bind_ok, if_neg (by simp), bind_ok]
    dsimp only
    have h0 : ("," : Str).length = 1 := by decide +kernel
    rw [if_neg (by simp), bind_ok, if_pos (by simp), at_of a11 b11, ob_some, addS_o (by omega), ob_some, setI_of a11 b11, ob_some, bind_ok]
    rw [if_neg (by simp), bind_ok, if_neg (by simp), bind_ok]
    dsimp only
    rw [if_neg (by simp)]
    exact fin (wd_set hwd _ _) (by rw [app_len]; omega) kp
  · rw [if_neg (by simp), if_neg (by simp), if_neg (by simp), bind_ok, if_neg (by simp), bind_ok, if_neg (by simp), bind_ok, if_neg (by simp), bind_ok]
    dsimp only
    obtain ⟨z, hz, hzl⟩ := repl_o (v := ws[k.toNat]'(by omega)) (by omega)
    rw [if_neg (by simp), bind_ok, if_neg (by simp), bind_ok, if_pos (by simp), at_of a11 b11, ob_some, hz, ob_some, setI_of a11 b11, ob_some, bind_ok]
    rw [if_neg (by simp), bind_ok]
    dsimp only
    rw [if_neg (by simp)]
    exact fin (wd_set hwd _ _) (by omega) kp
  · rw [if_neg (by simp), if_neg (by simp), if_neg (by simp), bind_ok, if_neg (by simp), bind_ok, if_neg (by simp), bind_ok, if_neg (by simp), bind_ok]
    dsimp only
    rw [if_neg (by simp), bind_ok, if_neg (by simp), bind_ok, if_neg (by simp), bind_ok, if_pos (by simp)]
    refine sat_bind (Q := fun s : (List Int × List Str) => PkOk (c + 9) s.1 ∧ Wd (L + 6) (L + 3) s.2) ?_ fun s ⟨s1, s2⟩ => ?_
    · refine sat_bind (take_sat k12 (by omega) (by decide) (by decide)) fun r73 ⟨a73, b73, k73⟩ => ?_
      refine sat_atP (fun m : Str => m.length ≤ 6) (fun m hm => ?_) a73 b73 fun m hm => ?_
      · simp only [List.mem_cons, List.not_mem_nil, or_false] at hm
        rcases hm with rfl | rfl | rfl | rfl | rfl | rfl <;> decide +kernel
      rw [addL_of (by rw [List.length_singleton]; omega), ob_some]
      have w2 := wd_app hwd m
      exact sat_ok ⟨k73.mono (by omega), ⟨by have := w2.1; dsimp only; omega, w2.2⟩⟩
    · rw [if_neg (by simp)]
      exact fin s2 (by omega) (s1.mono (by omega))
  · rw [if_neg (by simp), if_neg (by simp), if_neg (by simp), bind_ok, if_neg (by simp), bind_ok, if_neg (by simp), bind_ok, if_neg (by simp), bind_ok]
    dsimp only
    rw [if_neg (by simp), bind_ok, if_neg (by simp), bind_ok, if_neg (by simp), bind_ok, if_neg (by simp), bind_ok]
    dsimp only
    rw [if_pos (by simp)]
    refine sat_bind (take_sat k12 (by omega) (by decide) (by decide)) fun r76 ⟨a76, b76, k76⟩ => ?_
    refine sat_atP (fun m : Str => m.length ≤ 6) (fun m hm => ?_) a76 b76 fun m hm => ?_
    · simp only [List.mem_cons, List.not_mem_nil, or_false] at hm
      rcases hm with rfl | rfl | rfl | rfl <;> decide +kernel
    rw [addS_o (by omega), ob_some]
    exact sat_ok ⟨by dsimp only; rw [app_len]; omega, k76.mono (by omega)⟩
theorem odd_ok (hp : PkOk c p) (hc : c ≤ 90000) : Sat (m__law_odd p) fun r => r.1.length ≤ 200 ∧ PkOk (c + 1) r.2 := by
  unfold m__law_odd
  rw [addL_of, ob_some, addL_of, ob_some, addL_of, ob_some, addL_of, ob_some]
  rotate_left
  · unfold big; simp
  · unfold big; simp
  · unfold big; simp
  · unfold big; simp
  refine sat_bind (take_sat hp (by omega) (by decide) (by decide)) fun r6 ⟨a6, b6, k6⟩ => ?_
  refine sat_atP (fun m : Str => m.length ≤ 200) (fun m hm => ?_) a6 b6 fun m hm => sat_ok ⟨hm, k6⟩
  have all : ∀ m ∈ ([("" : Str), " ", "-", "--", "- ", ",", ", ", "0", "1"] ++ [("0 0" : Str), "1 0", "01", "0 01", "0,", "0, 0", "0,0", "0,  0", "0 1, 0"] ++ [("0, -" : Str), "-, 0", "0\n", "0\t1", "+0", "0 1 3"] ++ [("0 2" : Str), "0.0", "0 1 2 3 4 5 6 7 8 9 10 11", "0 , 0", "0, 0, 0 "] ++ [("0 1 2 3 4 5 6 7 8 9 10 11 12" : Str), "11 10 9 8 7 6 5 4 3 2 1 0", "0 1, 1 0, 0 1"] ++ [("a" : Str), "0 1 10", "1 0, 0", "0 1 2 3 4 5 6 7 8 9 10 11 12, 0 1 2 3 4 5 6 7 8 9 10 11 12"] : List Str), m.length ≤ 200 := by decide +kernel
  exact all m hm
end K78
set_option maxRecDepth 100000
namespace D
open VP (iota IsOrd)
end D
set_option maxRecDepth 100000
namespace D
end D
set_option maxRecDepth 100000
namespace TM
open PySem VL VP D PySem.SeqAt
open L2 (atI ixN)
end TM
set_option maxRecDepth 100000
namespace K78
open PySem VL VP TM D TL
open PySem.W (Datum Tup)
open PySem.W.Datum (toD)
open PySem.SeqAt (shaped)
open L2 (atI ixN cutS)
variable {n : Nat} {t w : Str} {p : List Int} {c : Nat} {ll : List (List Int)} {d : PyData}
/-- a list of orders, none of many things -/
structure Lo (ll : List (List Int)) : Prop where
  one : 1 ≤ ll.length
  len : ll.length ≤ 120
  all : ∀ o ∈ ll, Few o
theorem Lo.few (h : Lo ll) : FewL ll := ⟨by have := h.len; omega, h.all⟩
theorem setI_last {τ : Type} {xs : List τ} {v : τ} (h : 1 ≤ xs.length) : setI xs (-(1 : Int)) v = some (xs.set (xs.length - 1) v) := by
  unfold setI
  rw [ixN_neg (by omega) (by omega), show ((-(1 : Int)) + (xs.length : Int)).toNat = xs.length - 1 by omega]
  rfl
theorem lo_set (h : Lo ll) (i : Nat) {o : List Int} (ho : Few o) : Lo (ll.set i o) := ⟨by rw [List.length_set]; exact h.one, by rw [List.length_set]; exact h.len, fun x hx => by
  rcases List.mem_or_eq_of_mem_set hx with hx | hx
  · exact h.all x hx
  · rw [hx]; exact ho⟩
theorem texts_eq (h : Lo ll) : textsT ll = listT ll := by
  unfold textsT
  rw [if_neg]
  intro e
  have := h.one
  rw [e] at this
  simp at this
theorem texts_len (h : Lo ll) : (textsT ll).length ≤ 48240 ∧ (parts (textsT ll)).length ≤ 1000 := by
  have hl := h.len
  rw [texts_eq h]
  constructor
  · rw [len_tl, tl_list]
    refine Nat.le_trans (len_joinL (m := 400) fun p hp => ?_) (by
      rw [List.length_map]
      show ll.length * 402 ≤ 48240
      omega)
    obtain ⟨x, hx, rfl⟩ := List.mem_map.mp hp
    rw [← len_tl]
    exact words_len (h.all x hx)
  · have hs := split_list h.few (fun e => by have := h.one; rw [e] at this; simp at this)
    have hle := list_len h.few
    unfold splitS at hs
    split at hs
    · have e : Txt.split (listT ll) ", " = ll.map wordsT := Option.some.inj hs
      unfold parts
      rw [e, List.length_map]
      omega
    · cases hs
theorem short_parts (h : t.length ≤ 900) : (parts t).length ≤ 1000 := by
  have := (split_len t ", ").2
  unfold parts
  omega
theorem cut500 (z : Str) : (cutS z none (some (500 : Int))).length ≤ 500 := by
  rw [len_l, cutS_cps, cut_take _ (by decide)]
  exact List.length_take_le _ _
theorem no_text (h : isD .str d = false) : y__law_asked "read" d = .ok ("NoText", toD (() : Unit)) ∧ y__law_asked "reads" d = .ok ("NoText", toD (() : Unit)) := by
  refine ⟨asked_read_ex ?_, asked_reads_ex ?_⟩
  · unfold y_read_order
    rw [h, if_pos (by decide)]
  · unfold y_read_orders
    rw [h, if_pos (by decide)]
theorem left : ∀ ns : List Int, ns.length ≤ 63 → ∃ e, h_law [.sc ns] = some (.ret (.fr (.bool true)) e) := fun ns _ => by
  have hb : big = 1000000 := rfl
  refine law_of (sim_law ns) ?_
  unfold m_law
  have hm : 0 ≤ max2 (1 : Int) (min2 12 (ns.length : Int)) ∧ max2 (1 : Int) (min2 12 (ns.length : Int)) ≤ 12 := by unfold max2 min2; split <;> split <;> omega
  rw [rg1_of (by omega), ob_some]
  refine sat_out (I := fun _ => True) (sat_loop (fun _ => True) trivial fun s0 x hx _ => ?_) fun _ _ => sat_ok rfl
  obtain ⟨k, hk, rfl⟩ := mem_iotaN hx
  refine sat_bind (pool_ok ns k (by omega)) fun p hp => ?_
  refine sat_bind (take_sat hp (by decide) (by decide) (by decide)) fun r1 ⟨a1, b1, k1⟩ => ?_
  obtain ⟨n, en⟩ : ∃ n : Nat, 1 + r1.1 = (n : Int) := ⟨(1 + r1.1).toNat, by omega⟩
  have n1 : 1 ≤ n := by omega
  have n2 : n ≤ 12 := by omega
  rw [en, fdivI_of (by omega) (by omega), ob_some]
  obtain ⟨m, hm2, m0, m1⟩ : ∃ m : Int, atI ([(5 : Int), (min2 ((120 : Int)) (480 / ((2 : Int) * (n : Int) + 3)))]) ((b2i ((decide ((k : Int) = (0 : Int)))))) = some m ∧ 1 ≤ m ∧ m ≤ 120 := by
    have hq : 1 ≤ 480 / ((2 : Int) * (n : Int) + 3) := by
      rw [Int.le_ediv_iff_mul_le (by omega)]
      omega
    cases decide ((k : Int) = 0)
    · exact ⟨5, rfl, by decide, by decide⟩
    · refine ⟨min2 120 (480 / ((2 : Int) * (n : Int) + 3)), rfl, ?_, ?_⟩
      · unfold min2; split <;> omega
      · unfold min2; split <;> omega
  rw [hm2, ob_some]
  refine sat_bind (take_sat k1 (by decide) (by omega) (by omega)) fun r2 ⟨a2, b2, k2⟩ => ?_
  rw [rg1_of (by omega), ob_some]
  refine sat_bind (drawn_ok (m := (1 + r2.1).toNat) k2 (by rw [iota_len]; omega) n1 n2 (iota_len _)) fun r3 ⟨l3, o3, k3⟩ => ?_
  have lo3 : Lo r3.1 := ⟨by omega, by omega, fun o ho => few_ord (o3 o ho) n1 n2⟩
  have k3 : PkOk 6000 r3.2 := k3.mono (by omega)
  refine sat_bind (Q := fun s : (List Int × List (List Int)) => PkOk 6100 s.1 ∧ Lo s.2) ?_ fun s ⟨ks, los⟩ => ?_
  · refine sat_bind (take_sat k3 (by decide) (by decide) (by decide)) fun r4 ⟨a4, b4, k4⟩ => ?_
    refine sat_ite (fun _ => ?_) fun _ => sat_ok ⟨k4.mono (by decide), lo3⟩
    refine sat_bind (take_sat k4 (by decide) (by decide) (by decide)) fun r5 ⟨a5, b5, k5⟩ => ?_
    obtain ⟨n', en'⟩ : ∃ n : Nat, 1 + r5.1 = (n : Int) := ⟨(1 + r5.1).toNat, by omega⟩
    rw [en']
    refine sat_bind (order_ok k5 (by decide) (by omega)) fun r6 ⟨o6, k6⟩ => ?_
    have f6 := few_ord o6 (by omega) (by omega)
    have hone := lo3.one
    have hlen := lo3.len
    refine sat_bind (take_sat k6 (by decide) (by omega) (by omega)) fun r7 ⟨a7, b7, k7⟩ => ?_
    refine sat_bind (take_sat k7 (by decide) (by decide) (by decide)) fun r8 ⟨a8, b8, k8⟩ => ?_
    have : r8.1 = 0 ∨ r8.1 = 1 := by omega
    rcases this with e | e
    · rw [e, show atI ([r7.1, (-(1 : Int))]) (0 : Int) = some r7.1 from rfl, ob_some, setI_of a7 b7, ob_some]
      exact sat_ok ⟨k8.mono (by decide), lo_set lo3 _ f6⟩
    · rw [e, show atI ([r7.1, (-(1 : Int))]) (1 : Int) = some (-(1 : Int)) from rfl, ob_some, setI_last hone, ob_some]
      exact sat_ok ⟨k8.mono (by decide), lo_set lo3 _ f6⟩
  · obtain ⟨pk, ll⟩ := s
    dsimp only at ks los ⊢
    have h0 : atI ll (0 : Int) = some (ll[0]'(los.one)) := at_of (by decide) (by have := los.one; omega)
    have f0 := los.all _ (List.getElem_mem (l := ll) los.one)
    rw [h0, ob_some, written_ok f0, bind_ok, list_written_ok los.few, bind_ok]
    have hw := words_len f0
    obtain ⟨t1, t2⟩ := texts_len los
    refine sat_outF (I := fun pk => PkOk 7000 pk) ?_ fun pk2 kp2 => ?_
    · have key := sat_loopI (γ := Bool) (mb := fun (s233 : (List Int)) (x234 : Str) =>
        R.bind (m__law_texts_right x234) fun v235 =>
        if (!v235) = true then
        (.ok (.rt false))
        else
        (R.bind (ob (rg1 ((4 : Int))) fun xs236 =>
        loopM (fun (s253 : (List Int)) (x254 : Int) =>
        R.bind (m__law_changed s253 x234) fun v255 =>
        R.bind (R.bind (m__law_draw v255.2 ((4 : Int))) fun v259 =>
        if (decide (v259.1 = (0 : Int))) = true then
        (R.bind (m__law_changed v259.2 v255.1) fun v260 =>
        .ok ((v260.2, v260.1)))
        else
        (.ok ((v259.2, v255.1)))) fun (s258 : ((List Int) × Str)) =>
        ob (slS s258.2 none (some (500 : Int))) fun v261 =>
        R.bind (m__law_texts_right v261) fun v262 =>
        if (!v262) = true then
        (.ok (.rt false))
        else
        (.ok (.nx s258.1))) xs236 s233) (Fl.outF fun (s263 : (List Int)) =>
        .ok (.nx s263)))) (fun i pk => PkOk (6100 + 200 * i) pk) [wordsT (ll[0]'(los.one)), textsT ll] 0 pk (ks.mono (by decide)) fun i pk hi hpk => by
          have hi2 : i < 2 := hi
          rw [Nat.zero_add] at hpk ⊢
          have hx : ([wordsT (ll[0]'(los.one)), textsT ll][i]'hi).length ≤ 48240 ∧ (parts ([wordsT (ll[0]'(los.one)), textsT ll][i]'hi)).length ≤ 1000 := by
            have : i = 0 ∨ i = 1 := by omega
            rcases this with rfl | rfl
            · exact ⟨by show (wordsT _).length ≤ _; omega, short_parts (by show (wordsT _).length ≤ _; omega)⟩
            · exact ⟨t1, t2⟩
          generalize [wordsT (ll[0]'(los.one)), textsT ll][i]'hi = x at hx ⊢
          rw [texts_right_ok (by omega) hx.2, bind_ok, if_neg (by decide), show rg1 (4 : Int) = some (iota 4) from rg1_nat (n := 4) (by decide), ob_some]
          refine sat_outF (I := fun pk => PkOk (6100 + 200 * (i + 1)) pk) ?_ fun pk3 h3 => sat_ok ⟨_, rfl, h3⟩
          have key2 := sat_loopI (γ := Bool) (mb := fun (s253 : (List Int)) (x254 : Int) =>
            R.bind (m__law_changed s253 x) fun v255 =>
            R.bind (R.bind (m__law_draw v255.2 ((4 : Int))) fun v259 =>
            if (decide (v259.1 = (0 : Int))) = true then
            (R.bind (m__law_changed v259.2 v255.1) fun v260 =>
            .ok ((v260.2, v260.1)))
            else
            (.ok ((v259.2, v255.1)))) fun (s258 : ((List Int) × Str)) =>
            ob (slS s258.2 none (some (500 : Int))) fun v261 =>
            R.bind (m__law_texts_right v261) fun v262 =>
            if (!v262) = true then
            (.ok (.rt false))
            else
            (.ok (.nx s258.1))) (fun j pk => PkOk (6100 + 200 * i + 30 * j) pk) (iota 4) 0 pk (hpk.mono (by omega)) fun j pk hj hpk => by
              rw [iota_len] at hj
              rw [Nat.zero_add] at hpk ⊢
              refine sat_bind (changed_ok (L := 48240) hpk (by omega) hx.1 (by decide)) fun r ⟨q1, q2⟩ => ?_
              refine sat_bind (Q := fun s : (List Int × Str) => PkOk (6100 + 200 * i + 30 * (j + 1)) s.1 ∧ s.2.length ≤ 1000000) ?_ fun s ⟨z1, z2⟩ => ?_
              · refine sat_bind (take_sat q2 (by omega) (by decide) (by decide)) fun r9 ⟨a9, b9, k9⟩ => ?_
                refine sat_ite (fun _ => ?_) fun _ => sat_ok ⟨k9.mono (by omega), by dsimp only; omega⟩
                refine sat_bind (changed_ok (L := 193160) k9 (by omega) (by omega) (by decide)) fun r10 ⟨q3, q4⟩ => ?_
                exact sat_ok ⟨q4.mono (by omega), by dsimp only; omega⟩
              · rw [slS_o z2, ob_some]
                have h5 := cut500 s.2
                rw [texts_right_ok (by omega) (short_parts (by omega)), bind_ok, if_neg (by decide)]
                exact sat_ok ⟨_, rfl, z1⟩
          refine key2.mono fun r ⟨s', e1, e2⟩ => ⟨s', e1, ?_⟩
          rw [iota_len] at e2
          exact e2.mono (by omega)
      exact key.mono fun r ⟨s', e1, e2⟩ => ⟨s', e1, e2.mono (by show 6100 + 200 * (0 + 2) ≤ 7000; decide)⟩
    · refine sat_bind (odd_ok kp2 (by decide)) fun r11 ⟨o11, k11⟩ => ?_
      rw [texts_right_ok (by omega) (short_parts (by omega)), bind_ok, if_neg (by decide)]
      rw [ob_some]
      refine sat_bind (take_sat k11 (by decide) (by decide) (by decide)) fun r12 ⟨a12, b12, k12⟩ => ?_
      refine sat_atP (fun d : PyData => isD .str d = false) (fun d hd => ?_) a12 b12 fun d hd => ?_
      · simp only [List.mem_cons, List.not_mem_nil, or_false] at hd
        rcases hd with rfl | rfl | rfl | rfl | rfl | rfl | rfl | rfl | rfl | rfl | rfl | rfl <;> rfl
      · obtain ⟨h1, h2⟩ := no_text hd
        have hn : neY (PyData.tuple [toD ("NoText" : Str), toD (() : Unit)]) ((toD ((("NoText" : Str), ()) : (Str × Unit)))) = some false := by decide +kernel
        rw [h1, bind_ok]
        dsimp only
        rw [hn, ob_some, if_neg (by decide), h2, bind_ok]
        dsimp only
        rw [hn, ob_some, bind_ok, if_neg (by decide)]
        exact sat_ok ⟨_, rfl, trivial⟩
end K78
set_option maxRecDepth 100000
set_option maxHeartbeats 0
open PySem PySem.W PySem.Calls PyProof.Rows
theorem PySem.Challenge.cw_farorders_k78_texts_of_no_orders_holds : PySem.Challenge.rw_farorders_k78_texts_of_no_orders.Holds := by
  w_on; o_law
  refine HandSHeadRun.head_any (r := OpenLaw.row PySem.Challenge.rw_farorders_k78_texts_of_no_orders) (q := view (OpenLaw.row PySem.Challenge.rw_farorders_k78_texts_of_no_orders).prog [38]) (H := K78.hk) (ob := K78.obW) (M := 4000) (loose := K78.nm) (d := HandSHeadRun.topDef (OpenLaw.row PySem.Challenge.rw_farorders_k78_texts_of_no_orders).prog 38) (kwd := []) K78.ob_eq
    (by kernel_rfl) (fun s => by kernel_rfl) K78.run (by kernel_rfl) (by kernel_rfl) (by kernel_rfl) (by rfl) (by first | assumption | decide +kernel) (by decide +kernel) ⟨rfl, rfl, rfl, rfl, rfl, by decide +kernel⟩ ?hw ?hc
  case hw => w_witness2
  case hc =>
    refine VL.walk_ofG (l := PySem.Challenge.rw_farorders_k78_texts_of_no_orders) (n := 63) (k := 8) (x := "script") rfl (by decide) (by kernel_rfl) ⟨rfl, by decide, by decide⟩ (by kernel_rfl) ?F
    intro w mg fa h Y G hmg0
    obtain ⟨K, KX, c⟩ := Y
    have hmg : mg ("law" : PySem.Str) = some (.ref fa) := by
      have e : (HandSHeadRun.topDef (OpenLaw.row PySem.Challenge.rw_farorders_k78_texts_of_no_orders).prog 38).name = ("law" : PySem.Str) := by kernel_rfl
      rw [← e]
      exact hmg0
    obtain ⟨fd, hb, hF⟩ := K78.facts (P := (PySem.Challenge.rw_farorders_k78_texts_of_no_orders).prog) (w := w) KX G hmg c.t.d c.more
    exact ⟨K, fd, _, KX, hb, fun H a nums hl _ hS => VL.law_end hS (K78.left nums hl), hF⟩
