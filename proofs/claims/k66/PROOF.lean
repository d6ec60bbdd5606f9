import PyProof.Rows.All
import Wide.All
import OpenK.AllK
import Wide.FinOn
import HandS.ForMost
import HandS.ForExc
import HandS.TupAny
import HandS.Deep
import HandS.SortInts
import HandS.IsInst
import HandS.ExcIs
import HandS.Wide
import HandS.Style
import HandS.Conv
import HandS.RaiseMore
import HandS.More
import HandS.Defaults
import KE.DataMinMax
import KE.SortData
import KE.DataFind
import KE.DataIsa
import PyProof.ReprReads
import KE.KStateDown
import HandS.HeadEnd
import HandS.HeadHook2
import HandS.Head0
import HandS.Head1
import HandS.Head2
import HandS.HeadHook1
import HandS.HeadHook3
import HandS.HeadHook4
import HandS.Small
import HandS.ListItems
import PyProof.SumAny
import HandS.SetFor
import HandS.TupSets
import PyProof.ReprRoads
import HandS.ExcValue
import KE.KDictZip
import HandS.Flt
import HandS.HotCalls
import HandS.Text
import HandS.Iter
import PyProof.P3In
import KE.KDictWalk
import KE.KDictCopyH
import PyProof.EqKinds
import KE.DataCmp
import KE.Datum
import KE.DatumMore
import KE.KEqDict
import HandS.TupLen
import PyProof.Rows.SetFrom
import KE.GoesEnum
import KE.GoesMore
import HandS.Replace
import HandS.ReplaceLit
import PyProof.StrCalls6
import PyProof.FitsReplace
import KE.KDictSum
import HandS.DictSubView
import HandS.DictEq
import PyProof.DictFindH
import KE.KDictKeyed
import PySem.Challenge.RW_farorders_k66_pairs_ahead
set_option Elab.async false
set_option linter.all false
set_option maxRecDepth 100000
namespace VL
open PySem
/-- a thing with things of its own: frozen data, or a new list, tuple, instance (of a class of the module, by its attributes) of such -/
inductive Nd where
  | lst
  | tup
  | ins (c : Str) (fs : List Str)
inductive Tr where
  | fr (d : PyData)
  | nd (k : Nd) (ts : List Tr)
mutual
/-- as data, where nothing is an instance -/
def Tr.dat : Tr → Option PyData
  | .fr d => some d
  | .nd .lst ts => (Tr.dats ts).map .list
  | .nd .tup ts => (Tr.dats ts).map .tuple
  | .nd (.ins _ _) _ => none
def Tr.dats : List Tr → Option (List PyData)
  | [] => some []
  | t :: ts => t.dat.bind fun d => (Tr.dats ts).map (d :: ·)
end
/-- what a name holds: frozen data; a list or dict of its own, which may be changed; an error; another thing of its own, told by data -/
inductive B where
  | fr (d : PyData)
  | ow (ds : List PyData)
  | od (kvs : List (PyData × PyData))
  | ex (c : Str)
  | rs (k : Nat) (d : PyData)
  | sc (ns : List Int)
  | tr (t : Tr)
abbrev Env := List (Option B)
/-- an operand: the name in a slot, or a value -/
inductive O where
  | s (i : Nat)
  | b (x : B)
inductive Out (α : Type) where
  | ok (a : α) (e : Env)
  | ex (c : Str) (e : Env)
inductive SO where
  | nx (e : Env)
  | rt (b : B) (e : Env)
  | bk (e : Env)
  | ct (e : Env)
  | ex (c : Str) (e : Env)
abbrev FE := Env → Option (Out O)
abbrev FD := Env → Option (Out (List PyData))
abbrev FA := Env → Option (Out (List O))
abbrev FT := Env → Option (Out Bool)
abbrev FS := Env → Option SO
def B.dat : B → Option PyData
  | .fr d => some d
  | .ow ds => some (.list ds)
  | .od kvs => some (.dict kvs)
  | .ex _ => none
  | .rs _ _ => none
  | .sc _ => none
  | .tr _ => none
def at? (e : Env) (i : Nat) : Option B := match e[i]? with
  | some x => x
  | none => none
/-- what is read -/
def res (e : Env) : O → Option PyData
  | .s i => (at? e i).bind B.dat
  | .b b => b.dat
/-- frozen: data that is not changed any more -/
def fz (e : Env) : O → Option (PyData × Env)
  | .s i => match at? e i with
    | some (.fr d) => some (d, e)
    | some (.ow ds) => some (.list ds, e.set i (some (.fr (.list ds))))
    | some (.od kvs) => some (.dict kvs, e.set i (some (.fr (.dict kvs))))
    | some (.tr t) => t.dat.map fun d => (d, e.set i (some (.fr d)))
    | _ => none
  | .b b => match b with
    | .fr d => some (d, e)
    | .ow ds => some (.list ds, e)
    | .od kvs => some (.dict kvs, e)
    | .tr t => t.dat.map fun d => (d, e)
    | _ => none
/-- frozen, or an error, or the script -/
def fzB (e : Env) : O → Option (B × Env)
  | .s i => match at? e i with
    | some (.ex c) => some (.ex c, e)
    | some (.sc ns) => some (.sc ns, e)
    | _ => (fz e (.s i)).map fun p => (.fr p.1, p.2)
  | .b b => match b with
    | .ex c => some (.ex c, e)
    | .sc ns => some (.sc ns, e)
    | _ => (fz e (.b b)).map fun p => (.fr p.1, p.2)
def bnd {α β : Type} (r : Option (Out α)) (k : α → Env → Option (Out β)) : Option (Out β) := match r with
  | none => none
  | some (.ok a e) => k a e
  | some (.ex c e) => some (.ex c e)
def bndS {α : Type} (r : Option (Out α)) (k : α → Env → Option SO) : Option SO := match r with
  | none => none
  | some (.ok a e) => k a e
  | some (.ex c e) => some (.ex c e)
def ok {α : Type} (a : α) (e : Env) : Option (Out α) := some (.ok a e)
/-- frozen data as an operand -/
def okD (d : PyData) (e : Env) : Option (Out O) := some (.ok (.b (.fr d)) e)
def fVar (i : Nat) : FE := fun e => match at? e i with
  | some _ => some (.ok (.s i) e)
  | none => none
def fC (d : PyData) : FE := fun e => okD d e
def fBin (op : PyData → PyData → Option B) (fa fb : FE) : FE := fun e => bnd (fa e) fun o1 e1 => bnd (fb e1) fun o2 e2 =>
  (res e2 o1).bind fun x => (res e2 o2).bind fun y => (op x y).bind fun z => some (.ok (.b z) e2)
def fUn (op : PyData → Option B) (fa : FE) : FE := fun e => bnd (fa e) fun o1 e1 => (res e1 o1).bind fun x => (op x).bind fun z => some (.ok (.b z) e1)
/-- items of a display, each frozen -/
def dNil : FD := fun e => some (.ok [] e)
def dCons (f : FE) (r : FD) : FD := fun e => bnd (f e) fun o e1 => (fz e1 o).bind fun p => bnd (r p.2) fun ds e2 => some (.ok (p.1 :: ds) e2)
def fLst (r : FD) : FE := fun e => bnd (r e) fun ds e1 => if ds.length ≤ 1000 then some (.ok (.b (.ow ds)) e1) else none
def fTup (r : FD) : FE := fun e => bnd (r e) fun ds e1 => if ds.length ≤ 1000 then some (.ok (.b (.fr (.tuple ds))) e1) else none
/-- tests -/
def fTest (f : FE) : FT := fun e => bnd (f e) fun o e1 => match res e1 o with
  | some (.bool b) => some (.ok b e1)
  | _ => none
def tAnd (t u : FT) : FT := fun e => bnd (t e) fun b e1 => match b with
  | true => u e1
  | false => some (.ok false e1)
def tOr (t u : FT) : FT := fun e => bnd (t e) fun b e1 => match b with
  | true => some (.ok true e1)
  | false => u e1
def tNot (t : FT) : FT := fun e => bnd (t e) fun b e1 => some (.ok (!b) e1)
def fIf (t : FT) (fa fb : FE) : FE := fun e => bnd (t e) fun b e1 => match b with
  | true => fa e1
  | false => fb e1
def sNil : FS := fun e => some (.nx e)
def sSeq (f g : FS) : FS := fun e => match f e with
  | some (.nx e1) => g e1
  | r => r
def sExpr (f : FE) : FS := fun e => bndS (f e) fun _ e1 => some (.nx e1)
/-- x = e, frozen -/
def sAsg (i : Nat) (f : FE) : FS := fun e => bndS (f e) fun o e1 => (fzB e1 o).bind fun p => some (.nx (p.2.set i (some p.1)))
/-- x = e, x's own from here on -/
def sOwn (i : Nat) (f : FE) : FS := fun e => bndS (f e) fun o e1 => match o with
  | .b b => some (.nx (e1.set i (some b)))
  | .s _ => none
/-- return of a new list: the caller's own -/
def sRetO (f : FE) : FS := fun e => bndS (f e) fun o e1 => match o with
  | .b b => some (.rt b e1)
  | .s i => (at? e1 i).bind fun b => some (.rt b (e1.set i none))
def sRetN : FS := fun e => some (.rt (.fr .none) e)
def sIf (t : FT) (f g : FS) : FS := fun e => bndS (t e) fun b e1 => match b with
  | true => f e1
  | false => g e1
def sRaise (c : Str) : FS := fun e => some (.ex c e)
def sBrk : FS := fun e => some (.bk e)
/-- names forgotten -/
def forget (vs : List Nat) (e : Env) : Env := vs.foldl (fun e i => e.set i none) e
end VL
namespace VL
open PySem L2
def aNil : FA := fun e => some (.ok [] e)
def aCons (f : FE) (r : FA) : FA := fun e => bnd (f e) fun o e1 => bnd (r e1) fun os e2 => some (.ok (o :: os) e2)
def resAll (e : Env) : List O → Option (List PyData)
  | [] => some []
  | o :: os => (res e o).bind fun d => (resAll e os).bind fun ds => some (d :: ds)
def fCB (g : List PyData → Option B) (fa : FA) : FE := fun e => bnd (fa e) fun os e1 => (resAll e1 os).bind fun ds => (g ds).bind fun z => some (.ok (.b z) e1)
/-- a < b < c -/
def fChain (g h : PyData → PyData → Option B) (fa fb fc : FE) : FE := fun e => bnd (fa e) fun o1 e1 => bnd (fb e1) fun o2 e2 =>
  (res e2 o1).bind fun x => (res e2 o2).bind fun y => match g x y with
    | some (.fr (.bool true)) => bnd (fc e2) fun o3 e3 => (res e3 o2).bind fun y' => (res e3 o3).bind fun z => (h y' z).bind fun r => some (.ok (.b r) e3)
    | some (.fr (.bool false)) => some (.ok (.b (.fr (.bool false))) e2)
    | _ => none
def fAndV (fa fb : FE) : FE := fun e => bnd (fa e) fun o e1 => match res e1 o with
  | some (.bool true) => fb e1
  | some (.bool false) => okD (.bool false) e1
  | _ => none
def fOrV (fa fb : FE) : FE := fun e => bnd (fa e) fun o e1 => match res e1 o with
  | some (.bool true) => okD (.bool true) e1
  | some (.bool false) => fb e1
  | _ => none
def fNotV (fa : FE) : FE := fun e => bnd (fa e) fun o e1 => match res e1 o with
  | some (.bool b) => okD (.bool (!b)) e1
  | _ => none
def big : Nat := 1000000
def oAdd : PyData → PyData → Option B
  | .int i, .int j => some (.fr (.int (i + j)))
  | .str a, .str b => if a.length + b.length ≤ big then some (.fr (.str (a ++ b))) else none
  | .list xs, .list ys => if xs.length + ys.length ≤ big then some (.ow (xs ++ ys)) else none
  | .tuple xs, .tuple ys => if xs.length + ys.length ≤ big then some (.fr (.tuple (xs ++ ys))) else none
  | _, _ => none
def cMul (i j : Int) : Bool := decide (i.natAbs < 2 ^ 64) || decide (j.natAbs < 2 ^ 64)
def oMul : PyData → PyData → Option B
  | .int i, .int j => if cMul i j = true then some (.fr (.int (i * j))) else none
  | .list xs, .int k => if k.natAbs < 2 ^ 63 ∧ xs.length * k.toNat ≤ big then some (.ow (List.replicate k.toNat xs).flatten) else none
  | _, _ => none
def cFdiv (i j : Int) : Bool := decide (0 < j) && decide (j.natAbs < 2 ^ 200)
def isE : PyData → PyData → Option Bool
  | .list xs, .list [] => some xs.isEmpty
  | .str a, .str b => some (a == b)
  | _, _ => none
def oEq : PyData → PyData → Option B := fun x y => if SeqAt.shaped x = true ∧ SeqAt.shaped y = true then some (.fr (.bool (PyData.eqv x y))) else (isE x y).map fun b => .fr (.bool b)
def oNe : PyData → PyData → Option B := fun x y => if SeqAt.shaped x = true ∧ SeqAt.shaped y = true then some (.fr (.bool (!PyData.eqv x y))) else (isE x y).map fun b => .fr (.bool (!b))
def oIx : PyData → PyData → Option B
  | .list ds, .int i => (atI ds i).map .fr
  | .tuple ds, .int i => (atI ds i).map .fr
  | .str z, .int i => if z.length ≤ big then (atI z.cps.toList i).map fun c => .fr (.str ⟨#[c]⟩) else none
  | _, _ => none
/-- a part of a slice -/
abbrev FO := Env → Option (Out (Option Int))
def oNo : FO := fun e => some (.ok none e)
def oSome (f : FE) : FO := fun e => bnd (f e) fun o e1 => match res e1 o with
  | some (.int i) => some (.ok (some i) e1)
  | _ => none
def cutD {α : Type} (xs : List α) (lo hi : Option Int) : List α := (xs.drop (HT.sIx xs.length 0 lo)).take (HT.sIx xs.length xs.length hi - HT.sIx xs.length 0 lo)
def oSl : PyData → Option Int → Option Int → Option B
  | .list ds, lo, hi => some (.ow (cutD ds lo hi))
  | .str z, lo, hi => if z.length ≤ big then some (.fr (.str (cutS z lo hi))) else none
  | _, _, _ => none
def fSl (fa : FE) (fl fh : FO) : FE := fun e => bnd (fa e) fun o e1 => bnd (fl e1) fun l e2 => bnd (fh e2) fun h e3 => (res e3 o).bind fun x => (oSl x l h).bind fun z => some (.ok (.b z) e3)
def oRev : PyData → Option B
  | .list ds => some (.ow ds.reverse)
  | _ => none
def asInts : List PyData → Option (List Int)
  | [] => some []
  | .int i :: ds => (asInts ds).map (i :: ·)
  | _ => none
def gLen : List PyData → Option B
  | [.list ds] => some (.fr (.int ds.length))
  | [.tuple ds] => some (.fr (.int ds.length))
  | [.str z] => if z.length ≤ big then some (.fr (.int z.length)) else none
  | [.dict ks] => some (.fr (.int ks.length))
  | _ => none
def maxI : List Int → Int
  | [] => 0
  | x :: xs => xs.foldl max x
def minI : List Int → Int
  | [] => 0
  | x :: xs => xs.foldl min x
def gMax : List PyData → Option B
  | [.int i, .int j] => some (.fr (.int (if j > i then j else i)))
  | [.list (d :: ds)] => (asInts (d :: ds)).map fun ns => .fr (.int (maxI ns))
  | _ => none
def gMin : List PyData → Option B
  | [.int i, .int j] => some (.fr (.int (if j < i then j else i)))
  | [.list (d :: ds)] => (asInts (d :: ds)).map fun ns => .fr (.int (minI ns))
  | _ => none
def gSum : List PyData → Option B
  | [.list ds] => (asInts ds).map fun ns => .fr (.int ns.sum)
  | _ => none
def gInt : List PyData → Option B
  | [.int i] => some (.fr (.int i))
  | [.bool b] => some (.fr (.int (if b then 1 else 0)))
  | _ => none
def gList : List PyData → Option B
  | [.list ds] => some (.ow ds)
  | [.tuple ds] => some (.ow ds)
  | _ => none
/-- sorted, of ints -/
def leI (a b : Int) : Bool := decide (a ≤ b)
def gSorted : List PyData → Option B
  | [.list ds] => (asInts ds).map fun ns => .ow ((ns.mergeSort leI).map .int)
  | _ => none
end VL
namespace VL
open PySem L2
abbrev FI := Env → Option (Out (List PyData))
/-- a list (frozen), a tuple -/
def iSeq (f : FE) : FI := fun e => bnd (f e) fun o e1 => (fz e1 o).bind fun p => match p.1 with
  | .list ds => some (.ok ds p.2)
  | _ => none
def rngN (lo : Int) (n : Nat) : List PyData := (List.range n).map fun (i : Nat) => .int (lo + (i : Int))
def lim (i : Int) : Bool := decide (i.natAbs < 2 ^ 62)
def iRange1 (f : FE) : FI := fun e => bnd (f e) fun o e1 => match res e1 o with
  | some (.int j) => if lim j = true then some (.ok (rngN 0 j.toNat) e1) else none
  | _ => none
def iRange2 (f g : FE) : FI := fun e => bnd (f e) fun o e1 => bnd (g e1) fun o2 e2 => match res e2 o, res e2 o2 with
  | some (.int i), some (.int j) => if lim i = true ∧ lim j = true then some (.ok (rngN i (j - i).toNat) e2) else none
  | _, _ => none
def enumL : Nat → List PyData → List PyData
  | _, [] => []
  | i, d :: ds => .tuple [.int i, d] :: enumL (i + 1) ds
def iEnumr (f : FE) : FI := fun e => bnd (f e) fun o e1 => (fz e1 o).bind fun p => match p.1 with
  | .list ds => some (.ok (enumL 0 ds) p.2)
  | _ => none
abbrev FG := PyData → Env → Option Env
def gN (i : Nat) : FG := fun d e => some (e.set i (some (.fr d)))
def gT2 (i j : Nat) : FG := fun d e => match d with
  | .tuple [a, b] => some ((e.set i (some (.fr a))).set j (some (.fr b)))
  | _ => none
def sForL (g : FG) (body : FS) (dead : List Nat) : List PyData → FS
  | [], e => some (.nx (forget dead e))
  | d :: ds, e => match g d e with
    | none => none
    | some e1 => match body e1 with
      | some (.nx e2) => sForL g body dead ds (forget dead e2)
      | some (.ct e2) => sForL g body dead ds (forget dead e2)
      | some (.bk e2) => some (.nx (forget dead e2))
      | some (.rt b e2) => some (.rt b e2)
      | some (.ex c e2) => some (.ex c e2)
      | none => none
def sFor (fi : FI) (g : FG) (body : FS) (dead : List Nat) : FS := fun e => bndS (fi e) fun ds e1 => sForL g body dead ds e1
def tTrue : FT := fun e => some (.ok true e)
def fLcL (g : FG) (t : FT) (f : FE) (vs : List Nat) : List PyData → List PyData → Env → Option (Out O)
  | [], acc, e => some (.ok (.b (.ow acc)) e)
  | d :: ds, acc, e => match g d e with
    | none => none
    | some e1 => match t e1 with
      | some (.ok true e2) => match f e2 with
        | some (.ok o e3) => match fz e3 o with
          | some p => if acc.length < big then fLcL g t f vs ds (acc ++ [p.1]) (forget vs p.2) else none
          | none => none
        | _ => none
      | some (.ok false e2) => fLcL g t f vs ds acc (forget vs e2)
      | _ => none
def fLc (fi : FI) (g : FG) (t : FT) (f : FE) (vs : List Nat) : FE := fun e => bnd (fi e) fun ds e1 => fLcL g t f vs ds [] (forget vs e1)
inductive FR where
  | ret (b : B) (e : Env)
  | ex (c : Str) (e : Env)
abbrev Fn := List B → Option FR
/-- a def by its body, n names in all -/
def runF (g : FS) (n : Nat) : Fn := fun bs => match g (bs.map some ++ List.replicate (n - bs.length) none) with
  | some (.nx e) => some (.ret (.fr .none) e)
  | some (.rt b e) => some (.ret b e)
  | some (.ex c e) => some (.ex c e)
  | _ => none
/-- arguments: frozen; a name of one's own handed in to be changed -/
def aF (f : FE) (r : FA) : FA := fun e => bnd (f e) fun o e1 => (fzB e1 o).bind fun p => bnd (r p.2) fun os e2 => some (.ok (.b p.1 :: os) e2)
def aM (i : Nat) (r : FA) : FA := fun e => match at? e i with
  | some _ => bnd (r e) fun os e2 => some (.ok (.s i :: os) e2)
  | none => none
def bindO (e : Env) : List O → Option (List B)
  | [] => some []
  | .b x :: os => (bindO e os).bind fun bs => some (x :: bs)
  | .s i :: os => (at? e i).bind fun x => (bindO e os).bind fun bs => some (x :: bs)
/-- mi: (the parameter's place, the caller's slot) -/
def putBack (e2 : Env) : List (Nat × Nat) → Env → Env
  | [], e => e
  | (j, i) :: r, e => putBack e2 r (e.set i (at? e2 j))
/-- where the arguments' slots are those of mi, and all else is frozen -/
def slotsOk (mi : List (Nat × Nat)) : Nat → List O → Bool
  | _, [] => true
  | j, .s i :: os => decide ((j, i) ∈ mi) && slotsOk mi (j + 1) os
  | j, .b x :: os => (match x with
    | .fr _ => true
    | .ex _ => true
    | .sc _ => true
    | _ => false) && slotsOk mi (j + 1) os
def miOk (mi : List (Nat × Nat)) (os : List O) : Bool := mi.all fun p => match os[p.1]? with
  | some (.s i) => i == p.2
  | _ => false
def fCall (F : Fn) (n : Nat) (mi : List (Nat × Nat)) (fa : FA) : FE := fun e => bnd (fa e) fun os e1 => if (slotsOk mi 0 os && miOk mi os && os.length == n) = true then (bindO e1 os).bind fun bs => match F bs with
  | none => none
  | some (.ret b e2) => some (.ok (.b b) (putBack e2 mi e1))
  | some (.ex c e2) => some (.ex c (putBack e2 mi e1)) else none
/-- names of one's own lent to be read; the answer is flat -/
def isFlat : PyData → Bool
  | .none => true
  | .bool _ => true
  | .int _ => true
  | .str _ => true
  | _ => false
def aP (f : FE) (r : FA) : FA := fun e => bnd (f e) fun o e1 => match o with
  | .s i => bnd (r e1) fun os e2 => some (.ok (.s i :: os) e2)
  | .b _ => (fzB e1 o).bind fun p => bnd (r p.2) fun os e2 => some (.ok (.b p.1 :: os) e2)
def lent : B → Option B
  | .fr d => some (.fr d)
  | .ow ds => some (.fr (.list ds))
  | .od ks => some (.fr (.dict ks))
  | .ex c => some (.ex c)
  | .sc ns => some (.sc ns)
  | .rs _ _ => none
  | .tr t => t.dat.map .fr
def lendO (e : Env) : List O → Option (List B)
  | [] => some []
  | .b x :: os => (lendO e os).bind fun bs => some (x :: bs)
  | .s i :: os => ((at? e i).bind lent).bind fun x => (lendO e os).bind fun bs => some (x :: bs)
/-- nothing owned in what is handed in as a value -/
def flatO : List O → Bool
  | [] => true
  | .s _ :: os => flatO os
  | .b x :: os => (match x with
    | .fr _ => true
    | .ex _ => true
    | .sc _ => true
    | _ => false) && flatO os
def fCallP (F : Fn) (n : Nat) (fa : FA) : FE := fun e => bnd (fa e) fun os e1 => if flatO os = true then (lendO e1 os).bind fun bs => if bs.length = n then match F bs with
  | some (.ret (.fr d) _) => if isFlat d = true then okD d e1 else none
  | some (.ex c _) => some (.ex c e1)
  | _ => none else none else none
end VL
namespace VL
open PySem L2
/-- x.m(..), x in slot i -/
def fMth (i : Nat) (g : List PyData → List PyData → Option (B × List PyData)) (fd : FD) : FE := fun e => match at? e i with
  | some (.ow _) => bnd (fd e) fun as e1 => match at? e1 i with
    | some (.ow ds) => (g ds as).bind fun p => some (.ok (.b p.1) (e1.set i (some (.ow p.2))))
    | _ => none
  | _ => none
def mAppend (ds : List PyData) : List PyData → Option (B × List PyData)
  | [d] => if ds.length < big then some (.fr .none, ds ++ [d]) else none
  | _ => none
def lim63 (i : Int) : Bool := decide (i.natAbs < 2 ^ 63)
def mPop (ds : List PyData) : List PyData → Option (B × List PyData)
  | [] => (ds[ds.length - 1]?).map fun d => (.fr d, ds.dropLast)
  | [.int i] => if lim63 i = true then (seqIndex? i ds.length).bind fun k => (ds[k]?).map fun d => (.fr d, ds.eraseIdx k) else none
  | _ => none
def mInsert (ds : List PyData) : List PyData → Option (B × List PyData)
  | [.int i, d] => if 0 ≤ i ∧ i.natAbs < 2 ^ 62 ∧ ds.length < big then some (.fr .none, ds.take i.toNat ++ [d] ++ ds.drop i.toNat) else none
  | _ => none
/-- x[f] = .., x in slot i -/
def putAt (i : Nat) (f : FE) (d : PyData) : Env → Option (Out Unit) := fun e => match at? e i with
  | none => none
  | some _ => bnd (f e) fun o e1 => match res e1 o, at? e1 i with
    | some (.int k), some (.ow ds) => (ixN ds.length k).bind fun j => some (.ok () (e1.set i (some (.ow (ds.set j d)))))
    | _, _ => none
def sPut (i : Nat) (fx fv : FE) : FS := fun e => bndS (fv e) fun o e1 => (fz e1 o).bind fun p => bndS (putAt i fx p.1 p.2) fun _ e2 => some (.nx e2)
/-- x[a], y[b] = u, v -/
def sPut2 (i : Nat) (fx : FE) (j : Nat) (fy : FE) (fd : FD) : FS := fun e => bndS (fd e) fun ds e1 => match ds with
  | [a, b] => bndS (putAt i fx a e1) fun _ e2 => bndS (putAt j fy b e2) fun _ e3 => some (.nx e3)
  | _ => none
end VL
set_option maxRecDepth 100000
namespace VL
open PySem L2
def kP : Key → PyData
  | .inl i => .int i
  | .inr x => .str x
mutual
inductive Rp (K : PySem.W.Frag) (G : Hp) : V → PyData → Prop
  | non : Rp K G .non .none
  | bl (b : Bool) : Rp K G (.bl b) (.bool b)
  | int (i : Int) : Rp K G (.int i) (.int i)
  | str (x : Str) : Rp K G (.str x) (.str x)
  | lst {a : Addr} {xs : List V} {ds : List PyData} : G a = some (.lst xs) → RpAll K G xs ds → Rp K G (.ref a) (.list ds)
  | tup {a : Addr} {xs : List V} {ds : List PyData} : G a = some (.tup xs) → RpAll K G xs ds → Rp K G (.ref a) (.tuple ds)
  | dic {a : Addr} {ks : List (Key × V)} {ds : List (PyData × PyData)} : G a = some (.dK ks) → ks.map (fun p => kP p.1) = ds.map (·.1) → RpAll K G (ks.map (·.2)) (ds.map (·.2)) → Rp K G (.ref a) (.dict ds)
inductive RpAll (K : PySem.W.Frag) (G : Hp) : List V → List PyData → Prop
  | nil : RpAll K G [] []
  | cons {v : V} {vs : List V} {d : PyData} {ds : List PyData} : Rp K G v d → RpAll K G vs ds → RpAll K G (v :: vs) (d :: ds)
end
section
variable {K : PySem.W.Frag} {G G' : Hp}
mutual
theorem Rp.mono (e : Same G G') : ∀ {v : V} {d : PyData}, Rp K G v d → Rp K G' v d
  | _, _, .non => .non
  | _, _, .bl b => .bl b
  | _, _, .int i => .int i
  | _, _, .str x => .str x
  | _, _, .lst h a => .lst (e _ _ h) (RpAll.mono e a)
  | _, _, .tup h a => .tup (e _ _ h) (RpAll.mono e a)
  | _, _, .dic h k a => .dic (e _ _ h) k (RpAll.mono e a)
theorem RpAll.mono (e : Same G G') : ∀ {vs : List V} {ds : List PyData}, RpAll K G vs ds → RpAll K G' vs ds
  | _, _, .nil => .nil
  | _, _, .cons h t => .cons (Rp.mono e h) (RpAll.mono e t)
end
theorem RpAll.length : ∀ {vs : List V} {ds : List PyData}, RpAll K G vs ds → vs.length = ds.length
  | _, _, .nil => rfl
  | _, _, .cons _ t => by rw [List.length_cons, List.length_cons, RpAll.length t]
theorem RpAll.append : ∀ {vs ws : List V} {ds es : List PyData}, RpAll K G vs ds → RpAll K G ws es → RpAll K G (vs ++ ws) (ds ++ es)
  | _, _, _, _, .nil, k => k
  | _, _, _, _, .cons h t, k => .cons h (RpAll.append t k)
theorem RpAll.get : ∀ {vs : List V} {ds : List PyData} {i : Nat} {d : PyData}, RpAll K G vs ds → ds[i]? = some d → ∃ v, vs[i]? = some v ∧ Rp K G v d
  | _, _, _, _, .nil, e => by simp at e
  | _, _, 0, _, .cons r _, e => by simp at e; subst e; exact ⟨_, rfl, r⟩
  | _, _, i + 1, d, .cons _ t, e => by
    obtain ⟨u, h1, h2⟩ := RpAll.get (i := i) (d := d) t (by simpa using e)
    exact ⟨u, by simpa using h1, h2⟩
theorem RpAll.set {v : V} {d : PyData} (r : Rp K G v d) : ∀ {vs : List V} {ds : List PyData} (i : Nat), RpAll K G vs ds → RpAll K G (vs.set i v) (ds.set i d)
  | _, _, _, .nil => .nil
  | _, _, 0, .cons _ t => .cons r t
  | _, _, i + 1, .cons q t => .cons q (RpAll.set r i t)
theorem RpAll.take : ∀ {vs : List V} {ds : List PyData} (n : Nat), RpAll K G vs ds → RpAll K G (vs.take n) (ds.take n)
  | _, _, 0, _ => .nil
  | _, _, _ + 1, .nil => .nil
  | _, _, n + 1, .cons r t => .cons r (RpAll.take n t)
theorem RpAll.drop : ∀ {vs : List V} {ds : List PyData} (n : Nat), RpAll K G vs ds → RpAll K G (vs.drop n) (ds.drop n)
  | _, _, 0, r => r
  | _, _, _ + 1, .nil => .nil
  | _, _, n + 1, .cons _ t => RpAll.drop n t
theorem RpAll.eraseIdx : ∀ {vs : List V} {ds : List PyData} (n : Nat), RpAll K G vs ds → RpAll K G (vs.eraseIdx n) (ds.eraseIdx n)
  | _, _, _, .nil => .nil
  | _, _, 0, .cons _ t => t
  | _, _, n + 1, .cons r t => .cons r (RpAll.eraseIdx n t)
theorem RpAll.reverse {vs : List V} {ds : List PyData} (h : RpAll K G vs ds) : RpAll K G vs.reverse ds.reverse := by
  have go : ∀ {vs : List V} {ds : List PyData}, RpAll K G vs ds → ∀ {ws : List V} {es : List PyData}, RpAll K G ws es → RpAll K G (vs.reverse ++ ws) (ds.reverse ++ es) := by
    intro vs
    induction vs with
    | nil => intro ds h ws es k; cases h; exact k
    | cons v vs ih =>
      intro ds h ws es k
      cases h with
      | cons h1 h2 =>
        rw [List.reverse_cons, List.reverse_cons, List.append_assoc, List.append_assoc]
        exact ih h2 (.cons h1 k)
  have z := go h .nil
  rwa [List.append_nil, List.append_nil] at z
mutual
/-- without dicts it is the kit's Dp -/
theorem Rp.dp : ∀ {v : V} (d : PyData), d.canLay0 = true → Rp K G v d → Dp K G v d
  | _, .none, _, .non => .non
  | _, .bool _, _, .bl b => .bl b
  | _, .int _, _, .int i => .int i
  | _, .str _, _, .str x => .str x
  | _, .list ds, c, .lst h a => .lst (.of h) (RpAll.dp ds (by simpa [PyData.canLay0] using c) a)
  | _, .tuple ds, c, .tup h a => .tup (.of h) (RpAll.dp ds (by simpa [PyData.canLay0] using c) a)
  | _, .dict _, c, _ => by simp [PyData.canLay0] at c
theorem RpAll.dp : ∀ {vs : List V} (ds : List PyData), PyData.canLayAll0 ds = true → RpAll K G vs ds → DpAll K G vs ds
  | _, [], _, .nil => .nil
  | _, d :: ds, c, .cons h t => by
    have c' : d.canLay0 = true ∧ PyData.canLayAll0 ds = true := by simpa [PyData.canLayAll0] using c
    exact .cons (Rp.dp d c'.1 h) (RpAll.dp ds c'.2 t)
end
end
structure Res where
  rep : PySem.W.Frag → Hp → Hp → V → PyData → (Addr → Prop) → Prop
  frame : ∀ {K : PySem.W.Frag} {G H G' H' : Hp} {v : V} {d : PyData} {fp : Addr → Prop}, rep K G H v d fp → Same G G' → (∀ a, fp a → H' a = H a ∧ G' a = G a) → rep K G' H' v d fp
  own : ∀ {K : PySem.W.Frag} {G H : Hp} {v : V} {d : PyData} {fp : Addr → Prop}, rep K G H v d fp → ∀ a, fp a → G a = none ∧ ∃ o, H a = some o
structure Cc where
  K : PySem.W.Frag
  mg : Str → Option Value
  rho : Nat → Res
/-- an exception of the class at A, that is held -/
def XO (A p : Addr) : HO := .ext fun h => ∃ (oe : Obj) (vs : Array Value), h.get? p = some oe ∧ Zc (.ref A) none oe ∧ oe.data = .fields vs
structure WS where
  G : Hp
  H : Hp
  fp : Nat → Addr → Prop
mutual
/-- a thing at v, its own at the addresses told -/
inductive TOk (C : Cc) (G H : Hp) : Tr → V → List Addr → Prop
  | fr {v : V} {d : PyData} : Rp C.K G v d → TOk C G H (.fr d) v []
  | lst {ts : List Tr} {p : Addr} {xs : List V} {as : List Addr} : G p = none → H p = some (.lst xs) → TAll C G H ts xs as → TOk C G H (.nd .lst ts) (.ref p) (p :: as)
  | tup {ts : List Tr} {p : Addr} {xs : List V} {as : List Addr} : G p = none → H p = some (.tup xs) → TAll C G H ts xs as → TOk C G H (.nd .tup ts) (.ref p) (p :: as)
  | ins {c : Str} {fs : List Str} {ts : List Tr} {p dx A : Addr} {xs : List V} {as : List Addr} : C.mg c = some (.ref A) → G p = none → H p = some (.ins A dx (fs.zip xs)) → fs.length = xs.length → G dx = none → H dx = some (.own p) → TAll C G H ts xs as → TOk C G H (.nd (.ins c fs) ts) (.ref p) (p :: dx :: as)
inductive TAll (C : Cc) (G H : Hp) : List Tr → List V → List Addr → Prop
  | nil : TAll C G H [] [] []
  | cons {t : Tr} {x : V} {as bs : List Addr} {ts : List Tr} {xs : List V} : TOk C G H t x as → TAll C G H ts xs bs → TAll C G H (t :: ts) (x :: xs) (as ++ bs)
end
section
variable {C : Cc} {G H G' H' : Hp}
mutual
theorem TOk.own : ∀ {t : Tr} {v : V} {as : List Addr}, TOk C G H t v as → ∀ a ∈ as, G a = none ∧ ∃ o, H a = some o
  | _, _, _, .fr _, a, ha => by cases ha
  | _, _, _, .lst h1 h2 t, a, ha => by
    rcases List.mem_cons.mp ha with rfl | ha
    · exact ⟨h1, _, h2⟩
    · exact TAll.own t a ha
  | _, _, _, .tup h1 h2 t, a, ha => by
    rcases List.mem_cons.mp ha with rfl | ha
    · exact ⟨h1, _, h2⟩
    · exact TAll.own t a ha
  | _, _, _, .ins _ h1 h2 _ h4 h5 t, a, ha => by
    rcases List.mem_cons.mp ha with rfl | ha
    · exact ⟨h1, _, h2⟩
    · rcases List.mem_cons.mp ha with rfl | ha
      · exact ⟨h4, _, h5⟩
      · exact TAll.own t a ha
theorem TAll.own : ∀ {ts : List Tr} {xs : List V} {as : List Addr}, TAll C G H ts xs as → ∀ a ∈ as, G a = none ∧ ∃ o, H a = some o
  | _, _, _, .nil, a, ha => by cases ha
  | _, _, _, .cons h t, a, ha => by
    rcases List.mem_append.mp ha with ha | ha
    · exact TOk.own h a ha
    · exact TAll.own t a ha
end
mutual
theorem TOk.mono (e : Same G G') : ∀ {t : Tr} {v : V} {as : List Addr}, TOk C G H t v as → (∀ a ∈ as, H' a = H a ∧ G' a = G a) → TOk C G' H' t v as
  | _, _, _, .fr r, _ => .fr (r.mono e)
  | _, _, _, .lst h1 h2 t, k => by
    obtain ⟨k1, k2⟩ := k _ List.mem_cons_self
    exact .lst (k2.trans h1) (k1.trans h2) (TAll.mono e t fun a ha => k a (List.mem_cons_of_mem _ ha))
  | _, _, _, .tup h1 h2 t, k => by
    obtain ⟨k1, k2⟩ := k _ List.mem_cons_self
    exact .tup (k2.trans h1) (k1.trans h2) (TAll.mono e t fun a ha => k a (List.mem_cons_of_mem _ ha))
  | _, _, _, .ins h0 h1 h2 h3 h4 h5 t, k => by
    obtain ⟨k1, k2⟩ := k _ List.mem_cons_self
    obtain ⟨k3, k4⟩ := k _ (List.mem_cons_of_mem _ List.mem_cons_self)
    exact .ins h0 (k2.trans h1) (k1.trans h2) h3 (k4.trans h4) (k3.trans h5) (TAll.mono e t fun a ha => k a (List.mem_cons_of_mem _ (List.mem_cons_of_mem _ ha)))
theorem TAll.mono (e : Same G G') : ∀ {ts : List Tr} {xs : List V} {as : List Addr}, TAll C G H ts xs as → (∀ a ∈ as, H' a = H a ∧ G' a = G a) → TAll C G' H' ts xs as
  | _, _, _, .nil, _ => .nil
  | _, _, _, .cons h t, k => .cons (TOk.mono e h fun a ha => k a (List.mem_append_left _ ha)) (TAll.mono e t fun a ha => k a (List.mem_append_right _ ha))
end
mutual
/-- all its own frozen -/
theorem TOk.rp (e : Same G G') : ∀ {t : Tr} {v : V} {as : List Addr} {d : PyData}, TOk C G H t v as → (∀ a ∈ as, G' a = H a) → t.dat = some d → Rp C.K G' v d
  | _, _, _, _, .fr r, _, h => by cases h; exact r.mono e
  | .nd .lst ts, _, _, d, .lst h1 h2 t, k, h => by
    cases q : Tr.dats ts with
    | none => rw [Tr.dat, q] at h; cases h
    | some ds =>
      rw [Tr.dat, q] at h
      cases h
      exact .lst ((k _ List.mem_cons_self).trans h2) (TAll.rp e t (fun a ha => k a (List.mem_cons_of_mem _ ha)) q)
  | .nd .tup ts, _, _, d, .tup h1 h2 t, k, h => by
    cases q : Tr.dats ts with
    | none => rw [Tr.dat, q] at h; cases h
    | some ds =>
      rw [Tr.dat, q] at h
      cases h
      exact .tup ((k _ List.mem_cons_self).trans h2) (TAll.rp e t (fun a ha => k a (List.mem_cons_of_mem _ ha)) q)
  | .nd (.ins _ _) _, _, _, _, _, _, h => by rw [Tr.dat] at h; cases h
theorem TAll.rp (e : Same G G') : ∀ {ts : List Tr} {xs : List V} {as : List Addr} {ds : List PyData}, TAll C G H ts xs as → (∀ a ∈ as, G' a = H a) → Tr.dats ts = some ds → RpAll C.K G' xs ds
  | _, _, _, _, .nil, _, h => by cases h; exact .nil
  | t :: ts, _, _, ds, .cons r u, k, h => by
    rw [Tr.dats] at h
    cases q : t.dat with
    | none => rw [q] at h; cases h
    | some d =>
      cases q2 : Tr.dats ts with
      | none => rw [q, q2] at h; cases h
      | some es =>
        rw [q, q2] at h
        cases h
        exact .cons (TOk.rp e r (fun a ha => k a (List.mem_append_left _ ha)) q) (TAll.rp e u (fun a ha => k a (List.mem_append_right _ ha)) q2)
end
end
def BOk (C : Cc) (G H : Hp) : B → V → (Addr → Prop) → Prop
  | .fr d, v, fp => Rp C.K G v d ∧ ∀ a, ¬ fp a
  | .ow ds, v, fp => ∃ p xs, v = .ref p ∧ G p = none ∧ H p = some (.lst xs) ∧ RpAll C.K G xs ds ∧ ∀ a, fp a ↔ a = p
  | .od ds, v, fp => ∃ p ks, v = .ref p ∧ G p = none ∧ H p = some (.dK ks) ∧ ks.map (fun q => kP q.1) = ds.map (·.1) ∧ RpAll C.K G (ks.map (·.2)) (ds.map (·.2)) ∧ ∀ a, fp a ↔ a = p
  | .ex c, v, fp => (∃ p A, v = .ref p ∧ C.mg c = some (.ref A) ∧ G p = some (XO A p)) ∧ ∀ a, ¬ fp a
  | .rs k d, v, fp => (C.rho k).rep C.K G H v d fp
  | .sc ns, v, fp => (∃ p, v = .ref p ∧ SqL C.K G p (ns.map V.int)) ∧ ∀ a, ¬ fp a
  | .tr t, v, fp => ∃ as, TOk C G H t v as ∧ as.Nodup ∧ ∀ a, fp a ↔ a ∈ as
section
variable {C : Cc} {G H G' H' : Hp} {b : B} {v : V} {fp : Addr → Prop}
theorem BOk.own (h : BOk C G H b v fp) : ∀ a, fp a → G a = none ∧ ∃ o, H a = some o := by
  cases b with
  | fr d => exact fun a q => absurd q (h.2 a)
  | ow ds =>
    obtain ⟨p, xs, _, h1, h2, _, h3⟩ := h
    intro a q
    obtain rfl := (h3 a).mp q
    exact ⟨h1, _, h2⟩
  | od ds =>
    obtain ⟨p, xs, _, h1, h2, _, _, h3⟩ := h
    intro a q
    obtain rfl := (h3 a).mp q
    exact ⟨h1, _, h2⟩
  | ex c => exact fun a q => absurd q (h.2 a)
  | rs k d => exact (C.rho k).own h
  | sc ns => exact fun a q => absurd q (h.2 a)
  | tr t =>
    obtain ⟨as, h1, _, h2⟩ := h
    exact fun a q => h1.own a ((h2 a).mp q)
theorem BOk.mono (h : BOk C G H b v fp) (e : Same G G') (k : ∀ a, fp a → H' a = H a ∧ G' a = G a) : BOk C G' H' b v fp := by
  cases b with
  | fr d => exact ⟨h.1.mono e, h.2⟩
  | ow ds =>
    obtain ⟨p, xs, e0, h1, h2, h4, h3⟩ := h
    have q := k p ((h3 p).mpr rfl)
    exact ⟨p, xs, e0, q.2.trans h1, q.1.trans h2, h4.mono e, h3⟩
  | od ds =>
    obtain ⟨p, xs, e0, h1, h2, h4, h5, h3⟩ := h
    have q := k p ((h3 p).mpr rfl)
    exact ⟨p, xs, e0, q.2.trans h1, q.1.trans h2, h4, h5.mono e, h3⟩
  | ex c =>
    obtain ⟨⟨p, A, h1, h2, h3⟩, h4⟩ := h
    exact ⟨⟨p, A, h1, h2, e _ _ h3⟩, h4⟩
  | rs n d => exact (C.rho n).frame h e k
  | sc ns =>
    obtain ⟨⟨p, h1, h2⟩, h4⟩ := h
    exact ⟨⟨p, h1, e.seq h2⟩, h4⟩
  | tr t =>
    obtain ⟨as, h1, h2, h3⟩ := h
    exact ⟨as, h1.mono e fun a ha => k a ((h3 a).mpr ha), h2, h3⟩
end
/-- read in H, its items in G -/
def Rq (K : PySem.W.Frag) (G H : Hp) (v : V) : PyData → Prop
  | .none => v = .non
  | .bool b => v = .bl b
  | .int i => v = .int i
  | .str x => v = .str x
  | .list ds => ∃ a xs, v = .ref a ∧ H a = some (.lst xs) ∧ RpAll K G xs ds
  | .tuple ds => ∃ a xs, v = .ref a ∧ G a = some (.tup xs) ∧ RpAll K G xs ds
  | .dict ds => ∃ a ks, v = .ref a ∧ H a = some (.dK ks) ∧ ks.map (fun p => kP p.1) = ds.map (·.1) ∧ RpAll K G (ks.map (·.2)) (ds.map (·.2))
section
variable {K : PySem.W.Frag} {G H : Hp} {v : V} {d : PyData}
theorem Rq.rp (h : Rq K G H v d) (s : Same G H) : Rp K H v d := by
  cases d with
  | none => cases h; exact .non
  | bool b => cases h; exact .bl b
  | int i => cases h; exact .int i
  | str x => cases h; exact .str x
  | list ds =>
    obtain ⟨a, xs, rfl, h1, h2⟩ := h
    exact .lst h1 (h2.mono s)
  | tuple ds =>
    obtain ⟨a, xs, rfl, h1, h2⟩ := h
    exact .tup (s _ _ h1) (h2.mono s)
  | dict ds =>
    obtain ⟨a, xs, rfl, h1, h2, h3⟩ := h
    exact .dic h1 h2 (h3.mono s)
theorem Rp.rq (h : Rp K G v d) (s : Same G H) : Rq K G H v d := by
  cases h with
  | non => rfl
  | bl b => rfl
  | int i => rfl
  | str x => rfl
  | lst h1 h2 => exact ⟨_, _, rfl, s _ _ h1, h2⟩
  | tup h1 h2 => exact ⟨_, _, rfl, h1, h2⟩
  | dic h1 h2 h3 => exact ⟨_, _, rfl, s _ _ h1, h2, h3⟩
theorem BOk.dat {C : Cc} {b : B} {fp : Addr → Prop} (h : BOk C G H b v fp) (s : Same G H) (hd : b.dat = some d) : Rq C.K G H v d := by
  cases b with
  | fr d' => cases hd; exact h.1.rq s
  | ow ds =>
    cases hd
    obtain ⟨p, xs, rfl, h1, h2, h4, h3⟩ := h
    exact ⟨p, xs, rfl, h2, h4⟩
  | od ds =>
    cases hd
    obtain ⟨p, xs, rfl, h1, h2, h4, h5, h3⟩ := h
    exact ⟨p, xs, rfl, h2, h4, h5⟩
  | ex c => cases hd
  | rs n d' => cases hd
  | sc ns => cases hd
  | tr t => cases hd
end
/-- tuples of whole numbers are frozen, all of them -/
def TGz (G H : Hp) : Prop := ∀ a (k : List Int), H a = some (.tup (k.map V.int)) → G a = some (.tup (k.map V.int))
theorem TGz.more {G G' H : Hp} (t : TGz G H) (s : Same G G') : TGz G' H := fun a k h => s a _ (t a k h)
/-- tuples of whole numbers that are new, frozen -/
noncomputable def addT (G H : Hp) : Hp := by
  classical
  exact fun a => if ∃ k : List Int, H a = some (.tup (k.map V.int)) then H a else G a
section
variable {G H H' : Hp}
theorem addT_old (tg : TGz G H) (keep : ∀ a o, H a = some o → H' a = some o) (a : Addr) (o : HO) (h : H a = some o) : addT G H' a = G a := by
  unfold addT
  split
  · rename_i z
    obtain ⟨k, hk⟩ := z
    have h1 := keep a o h
    rw [hk] at h1
    cases h1
    rw [hk, tg a k h]
  · rfl
theorem addT_same (tg : TGz G H) (sub : Same G H) (keep : ∀ a o, H a = some o → H' a = some o) : Same G (addT G H') := fun a u q => by
  rw [addT_old tg keep a u (sub a u q)]
  exact q
theorem addT_sub (sub : Same G H) (keep : ∀ a o, H a = some o → H' a = some o) : Same (addT G H') H' := fun a o q => by
  unfold addT at q
  split at q
  · exact q
  · exact keep a o (sub a o q)
theorem addT_tg : TGz (addT G H') H' := fun a k q => by
  unfold addT
  rw [if_pos ⟨k, q⟩]
  exact q
end
structure Mt (C : Cc) (π : List (Nat × V)) (e : Env) (σ : St) (w : WS) : Prop where
  len : e.length = σ.length
  sub : Same w.G w.H
  tg : TGz w.G w.H
  bok : ∀ i b, at? e i = some b → ∃ v, σ[i]? = some (some v) ∧ BOk C w.G w.H b v (w.fp i)
  non : ∀ i, at? e i = none → ∀ a, ¬ w.fp i a
  dis : ∀ i j a, w.fp i a → w.fp j a → i = j
  pin : ∀ p ∈ π, σ[p.1]? = some (some p.2)
structure Frm (w w' : WS) : Prop where
  g : Same w.G w'.G
  k : ∀ a o, w.H a = some o → (∀ i, ¬ w.fp i a) → w'.H a = some o ∧ w'.G a = w.G a ∧ ∀ i, ¬ w'.fp i a
  t : ∀ a, w'.H a = none → w.H a = none
theorem Frm.refl (w : WS) : Frm w w := ⟨Same.refl _, fun _ _ h n => ⟨h, rfl, n⟩, fun _ h => h⟩
theorem Frm.trans {w w1 w2 : WS} (a : Frm w w1) (b : Frm w1 w2) : Frm w w2 := by
  refine ⟨a.g.trans b.g, fun p o h n => ?_, fun p h => a.t p (b.t p h)⟩
  obtain ⟨h1, h2, h3⟩ := a.k p o h n
  obtain ⟨k1, k2, k3⟩ := b.k p o h1 h3
  exact ⟨k1, k2.trans h2, k3⟩
/-- what is new, or a name's own -/
theorem Frm.back {w w1 : WS} (f : Frm w w1) {a : Addr} (h : w1.H a = none ∨ ∃ i, w1.fp i a) : w.H a = none ∨ ∃ i, w.fp i a := by
  cases q : w.H a with
  | none => exact .inl rfl
  | some o =>
    by_cases hn : ∃ i, w.fp i a
    · exact .inr hn
    · obtain ⟨h1, h2, h3⟩ := f.k a o q fun i z => hn ⟨i, z⟩
      rcases h with h | ⟨i, h⟩
      · rw [h] at h1; cases h1
      · exact absurd h (h3 i)
theorem Mt.own {C : Cc} {π : List (Nat × V)} {e : Env} {σ : St} {w : WS} (m : Mt C π e σ w) {i : Nat} {a : Addr} (h : w.fp i a) : w.G a = none ∧ ∃ o, w.H a = some o := by
  cases q : at? e i with
  | none => exact absurd h (m.non i q a)
  | some b =>
    obtain ⟨v, _, k⟩ := m.bok i b q
    exact k.own a h
def OOk (C : Cc) (σ : St) (w w' : WS) : O → V → Prop
  | .s i, v => σ[i]? = some (some v)
  | .b b, v => ∃ fp : Addr → Prop, BOk C w'.G w'.H b v fp ∧ ∀ a, fp a → (w.H a = none ∨ ∃ i, w.fp i a) ∧ ∀ i, ¬ w'.fp i a
section
variable {C : Cc} {σ : St} {w w1 w2 w' : WS} {o : O} {v : V}
theorem OOk.step (h : OOk C σ w w1 o v) (f : Frm w1 w2) : OOk C σ w w2 o v := by
  cases o with
  | s i => exact h
  | b b =>
    obtain ⟨fp, h1, h2⟩ := h
    refine ⟨fp, h1.mono f.g fun a ha => ?_, fun a ha => ?_⟩
    · obtain ⟨hg, o, ho⟩ := h1.own a ha
      obtain ⟨k1, k2, k3⟩ := f.k a o ho (h2 a ha).2
      exact ⟨k1.trans ho.symm, k2⟩
    · obtain ⟨hg, o, ho⟩ := h1.own a ha
      exact ⟨(h2 a ha).1, (f.k a o ho (h2 a ha).2).2.2⟩
theorem OOk.base (h : OOk C σ w1 w' o v) (f : Frm w w1) : OOk C σ w w' o v := by
  cases o with
  | s i => exact h
  | b b =>
    obtain ⟨fp, h1, h2⟩ := h
    exact ⟨fp, h1, fun a ha => ⟨f.back (h2 a ha).1, (h2 a ha).2⟩⟩
theorem OOk.fr {d : PyData} (h : Rp C.K w'.G v d) : OOk C σ w w' (.b (.fr d)) v := ⟨fun _ => False, ⟨h, fun _ z => z⟩, fun _ z => z.elim⟩
end
/-- what follows a part -/
def Post {α β : Type} (C : Cc) (W : WX) (π : List (Nat × V)) (σ : St) (w : WS) (r : Option (Out α)) (rel : WS → α → β → Prop) (Q : β → Hp → Prop) : Prop := match r with
  | none => False
  | some (.ok a e) => ∀ b w', Mt C π e σ w' → Frm w w' → rel w' a b → Q b w'.H
  | some (.ex c e) => ∀ w' A, C.mg c = some (.ref A) → Mt C π e σ w' → Frm w w' → W (.ref A) none σ w'.H
section
variable {C : Cc} {W : WX} {π : List (Nat × V)} {σ : St} {w w1 : WS} {α β α' β' : Type} {r : Option (Out α)} {rel : WS → α → β → Prop} {Q : β → Hp → Prop} {rel' : WS → α' → β' → Prop} {Q' : β' → Hp → Prop} {k : α → Env → Option (Out α')}
theorem Post.from (h : Post C W π σ w r rel Q) (f : Frm w w1) : Post C W π σ w1 r rel Q := by
  cases r with
  | none => exact h
  | some x =>
    cases x with
    | ok a e => exact fun b w' m f' q => h b w' m (f.trans f') q
    | ex c e => exact fun w' A hA m f' => h w' A hA m (f.trans f')
theorem Post.reb {r : Option (Out O)} {Q : VK} (f : Frm w w1) (h : Post C W π σ w r (OOk C σ w) Q) : Post C W π σ w1 r (OOk C σ w1) Q := by
  cases r with
  | none => exact h
  | some x =>
    cases x with
    | ok a e => exact fun b w' m f' q => h b w' m (f.trans f') (q.base f)
    | ex c e => exact fun w' A hA m f' => h w' A hA m (f.trans f')
theorem Post.bnd (h : Post C W π σ w (bnd r k) rel' Q') (hk : ∀ a e b w1, Mt C π e σ w1 → Frm w w1 → rel w1 a b → Post C W π σ w (k a e) rel' Q' → Q b w1.H) : Post C W π σ w r rel Q := by
  cases r with
  | none => exact h
  | some x =>
    cases x with
    | ok a e => exact fun b w' m f q => hk a e b w' m f q h
    | ex c e => exact h
end
/-- f tells the expression of the reading t -/
def SE (C : Cc) (W : WX) (t : TE) (f : FE) : Prop := ∀ π env σ w Q, Mt C π env σ w → Post C W π σ w (f env) (OOk C σ w) Q → t σ w.H Q
def SD (C : Cc) (W : WX) (t : TA) (f : FD) : Prop := ∀ π env σ w Q, Mt C π env σ w → Post C W π σ w (f env) (fun w' ds vs => RpAll C.K w'.G vs ds) Q → t σ w.H Q
def SA (C : Cc) (W : WX) (t : TA) (f : FA) : Prop := ∀ π env σ w Q, Mt C π env σ w → Post C W π σ w (f env) (fun w' os vs => Paired (OOk C σ w w') os vs) Q → t σ w.H Q
def ST (C : Cc) (W : WX) (t : TT) (f : FT) : Prop := ∀ π env σ w Q, Mt C π env σ w → Post C W π σ w (f env) (fun _ b b' => b = b') Q → t σ w.H Q
def PostS (C : Cc) (W : WX) (π : List (Nat × V)) (w : WS) (r : Option SO) (D : Ends) : Prop := match r with
  | none => False
  | some (.nx e) => ∀ σ' w', Mt C π e σ' w' → Frm w w' → D.nx σ' w'.H
  | some (.rt b e) => ∀ v σ' w', Mt C π e σ' w' → Frm w w' → OOk C σ' w w' (.b b) v → D.rt v w'.H
  | some (.bk e) => ∀ σ' w', Mt C π e σ' w' → Frm w w' → D.bk σ' w'.H
  | some (.ct e) => ∀ σ' w', Mt C π e σ' w' → Frm w w' → D.ct σ' w'.H
  | some (.ex c e) => ∀ σ' w' A, C.mg c = some (.ref A) → Mt C π e σ' w' → Frm w w' → W (.ref A) none σ' w'.H
def SS (C : Cc) (W : WX) (pn : List Nat) (t : TS) (g : FS) : Prop := ∀ π env σ w D, (∀ p ∈ π, p.1 ∈ pn) → Mt C π env σ w → PostS C W π w (g env) D → t D σ w.H
section
variable {C : Cc} {W : WX} {π : List (Nat × V)} {σ : St} {w w1 : WS} {α β : Type} {r : Option (Out α)} {rel : WS → α → β → Prop} {Q : β → Hp → Prop} {D : Ends} {k : α → Env → Option SO}
theorem PostS.from {r : Option SO} (h : PostS C W π w r D) (f : Frm w w1) : PostS C W π w1 r D := by
  cases r with
  | none => exact h
  | some x =>
    cases x with
    | nx e => exact fun σ' w' m f' => h σ' w' m (f.trans f')
    | rt b e => exact fun v σ' w' m f' q => h v σ' w' m (f.trans f') (q.base f)
    | bk e => exact fun σ' w' m f' => h σ' w' m (f.trans f')
    | ct e => exact fun σ' w' m f' => h σ' w' m (f.trans f')
    | ex c e => exact fun σ' w' A hA m f' => h σ' w' A hA m (f.trans f')
theorem PostS.bnd (h : PostS C W π w (bndS r k) D) (hk : ∀ a e b w1, Mt C π e σ w1 → Frm w w1 → rel w1 a b → PostS C W π w (k a e) D → Q b w1.H) : Post C W π σ w r rel Q := by
  cases r with
  | none => exact h.elim
  | some x =>
    cases x with
    | ok a e => exact fun b w' m f q => hk a e b w' m f q h
    | ex c e => exact fun w' A hA m f => h σ w' A hA m f
end
section
variable {C : Cc} {π : List (Nat × V)} {e : Env} {σ : St} {w w0 : WS} {p : Addr} {o : HO}
/-- a new object -/
def WS.new (w : WS) (p : Addr) (o : HO) : WS := { w with H := upd w.H p o }
/-- no tuple of whole numbers -/
def NTz (o : HO) : Prop := ∀ k : List Int, o ≠ .tup (k.map V.int)
theorem TGz.put {G H : Hp} {p : Addr} {o : HO} (t : TGz G H) (h : NTz o) : TGz G (upd H p o) := fun a k q => by
  by_cases z : a = p
  · subst z
    rw [upd_same] at q
    exact absurd (Option.some.inj q) (h k)
  · rw [upd_ne z] at q
    exact t a k q
theorem updT {H : Hp} {p : Addr} {o : HO} (h : NTz o) : ∀ a (k : List Int), upd H p o a = some (.tup (k.map V.int)) → upd H p o a = H a := fun a k z => by
  by_cases e : a = p
  · rw [e, upd_same] at z
    exact absurd (Option.some.inj z) (h k)
  · exact upd_ne e
theorem Mt.new (m : Mt C π e σ w) (hp : w.H p = none) (ht : NTz o := by exact fun _ h => by cases h) : Mt C π e σ (w.new p o) := by
  have hG : w.G p = none := m.sub.free hp
  refine ⟨m.len, fun a u q => ?_, m.tg.put ht, fun i b q => ?_, m.non, m.dis, m.pin⟩
  · show upd w.H p o a = some u
    rw [upd_ne (ne_of_none q hG)]
    exact m.sub a u q
  · obtain ⟨v, h1, h2⟩ := m.bok i b q
    refine ⟨v, h1, h2.mono (Same.refl _) fun a ha => ⟨?_, rfl⟩⟩
    obtain ⟨_, u, hu⟩ := h2.own a ha
    exact upd_ne (ne_of_none hu hp)
theorem Frm.new (hp : w.H p = none) : Frm w (w.new p o) := by
  refine ⟨Same.refl _, fun a u h n => ⟨?_, rfl, n⟩, fun a h => ?_⟩
  · show upd w.H p o a = some u
    rw [upd_ne (ne_of_none h hp)]
    exact h
  · by_cases z : a = p
    · rw [z]; exact hp
    · have h' : upd w.H p o a = none := h
      rw [upd_ne z] at h'
      exact h'
/-- a thing at p, not owned by a name, frozen -/
def WS.frz (w : WS) (p : Addr) (o : HO) : WS := { w with G := upd w.G p o }
theorem Mt.frz (m : Mt C π e σ w) (hp : w.H p = some o) (hG : w.G p = none) (hn : ∀ i, ¬ w.fp i p) : Mt C π e σ (w.frz p o) := by
  have sG : Same w.G (upd w.G p o) := fun a u q => by rw [upd_ne (ne_of_none q hG)]; exact q
  refine ⟨m.len, fun a u q => ?_, m.tg.more sG, fun i b q => ?_, m.non, m.dis, m.pin⟩
  · have q' : upd w.G p o a = some u := q
    by_cases z : a = p
    · subst z
      rw [upd_same] at q'
      cases q'
      exact hp
    · rw [upd_ne z] at q'
      exact m.sub a u q'
  · obtain ⟨v, h1, h2⟩ := m.bok i b q
    refine ⟨v, h1, h2.mono sG fun a ha => ⟨rfl, upd_ne fun z => hn i (by rw [← z]; exact ha)⟩⟩
/-- a new object, frozen at once -/
theorem Mt.newF (m : Mt C π e σ w) (hp : w.H p = none) : Mt C π e σ ((w.new p o).frz p o) := by
  have hG : w.G p = none := m.sub.free hp
  have sG : Same w.G (upd w.G p o) := fun a u q => by rw [upd_ne (ne_of_none q hG)]; exact q
  refine ⟨m.len, fun a u q => ?_, fun a k q => ?_, fun i b q => ?_, m.non, m.dis, m.pin⟩
  · have q' : upd w.G p o a = some u := q
    show upd w.H p o a = some u
    by_cases z : a = p
    · subst z
      rw [upd_same] at q' ⊢
      exact q'
    · rw [upd_ne z] at q' ⊢
      exact m.sub a u q'
  · have q' : upd w.H p o a = some (.tup (k.map V.int)) := q
    show upd w.G p o a = _
    by_cases z : a = p
    · subst z
      rw [upd_same] at q' ⊢
      exact q'
    · rw [upd_ne z] at q' ⊢
      exact m.tg a k q'
  · obtain ⟨v, h1, h2⟩ := m.bok i b q
    refine ⟨v, h1, h2.mono sG fun a ha => ?_⟩
    obtain ⟨_, u, hu⟩ := h2.own a ha
    have ne : a ≠ p := ne_of_none hu hp
    exact ⟨upd_ne ne, upd_ne ne⟩
theorem Frm.frz (f : Frm w0 w) (hp : w0.H p = none ∨ ∃ i, w0.fp i p) (hG : w.G p = none) : Frm w0 (w.frz p o) := by
  refine ⟨fun a u q => ?_, fun a u h n => ?_, f.t⟩
  · show upd w.G p o a = some u
    rw [upd_ne (ne_of_none (f.g a u q) hG)]
    exact f.g a u q
  · obtain ⟨h1, h2, h3⟩ := f.k a u h n
    refine ⟨h1, ?_, h3⟩
    show upd w.G p o a = w0.G a
    have ne : a ≠ p := fun z => by
      subst z
      rcases hp with hp | ⟨i, hp⟩
      · rw [hp] at h; cases h
      · exact n i hp
    rw [upd_ne ne]
    exact h2
/-- the thing at p, owned by the name i, frozen -/
def WS.frzO (w : WS) (i : Nat) (p : Addr) (o : HO) : WS := { w with G := upd w.G p o, fp := fun j a => w.fp j a ∧ j ≠ i }
theorem at_set_same {e : Env} {i : Nat} {x : Option B} {b : B} (h : at? e i = some b) : at? (e.set i x) i = x := by
  unfold at? at h ⊢
  have hi : i < e.length := by
    cases q : e[i]? with
    | none => rw [q] at h; cases h
    | some y => exact (List.getElem?_eq_some_iff.mp q).1
  rw [List.getElem?_set_self hi]
theorem at_set_lt {e : Env} {i : Nat} {x : Option B} (hi : i < e.length) : at? (e.set i x) i = x := by
  unfold at?
  rw [List.getElem?_set_self hi]
theorem at_set_ne {e : Env} {i j : Nat} {x : Option B} (h : i ≠ j) : at? (e.set i x) j = at? e j := by
  unfold at?
  rw [List.getElem?_set_ne h]
theorem Mt.frzO {i : Nat} {b b' : B} {v : V} (m : Mt C π e σ w) (hb : at? e i = some b) (hv : σ[i]? = some (some v)) (hp : w.H p = some o) (hG : w.G p = none) (hf : ∀ a, w.fp i a ↔ a = p) (hb' : BOk C (upd w.G p o) w.H b' v fun _ => False) :
    Mt C π (e.set i (some b')) σ (w.frzO i p o) := by
  have sG : Same w.G (upd w.G p o) := fun a u q => by rw [upd_ne (ne_of_none q hG)]; exact q
  refine ⟨by rw [List.length_set]; exact m.len, fun a u q => ?_, m.tg.more sG, fun j c q => ?_, fun j q a z => ?_, fun j k a h1 h2 => m.dis j k a h1.1 h2.1, m.pin⟩
  · have q' : upd w.G p o a = some u := q
    by_cases z : a = p
    · subst z
      rw [upd_same] at q'
      cases q'
      exact hp
    · rw [upd_ne z] at q'
      exact m.sub a u q'
  · by_cases hj : i = j
    · subst hj
      rw [at_set_same hb] at q
      cases q
      refine ⟨v, hv, ?_⟩
      have e1 : (w.frzO i p o).fp i = fun _ => False := by
        funext a
        exact propext ⟨fun z => z.2 rfl, fun z => z.elim⟩
      rw [e1]
      exact hb'
    · rw [at_set_ne hj] at q
      obtain ⟨u, h1, h2⟩ := m.bok j c q
      have e1 : (w.frzO i p o).fp j = w.fp j := by
        funext a
        exact propext ⟨fun z => z.1, fun z => ⟨z, fun q => hj q.symm⟩⟩
      rw [e1]
      refine ⟨u, h1, h2.mono sG fun a ha => ⟨rfl, upd_ne fun z => ?_⟩⟩
      subst z
      exact hj (m.dis i j a ((hf a).mpr rfl) ha)
  · by_cases hj : i = j
    · subst hj
      exact z.2 rfl
    · rw [at_set_ne hj] at q
      exact m.non j q a z.1
theorem Frm.frzO {i : Nat} (f : Frm w0 w) (hG : w.G p = none) (hf : w.fp i p) : Frm w0 (w.frzO i p o) := by
  refine ⟨fun a u q => ?_, fun a u h n => ?_, f.t⟩
  · show upd w.G p o a = some u
    rw [upd_ne (ne_of_none (f.g a u q) hG)]
    exact f.g a u q
  · obtain ⟨h1, h2, h3⟩ := f.k a u h n
    refine ⟨h1, ?_, fun j z => h3 j z.1⟩
    show upd w.G p o a = w0.G a
    rw [upd_ne fun z => h3 i (by rw [z]; exact hf)]
    exact h2
end
/-- things at some addresses frozen; what i owns is owned no longer -/
def WS.frzT (w : WS) (i : Option Nat) (as : List Addr) : WS := { w with G := fun a => if a ∈ as then w.H a else w.G a, fp := fun j a => w.fp j a ∧ some j ≠ i }
section
variable {C : Cc} {π : List (Nat × V)} {e : Env} {σ : St} {w w0 : WS} {as : List Addr}
theorem frzT_same (i : Option Nat) (ho : ∀ a ∈ as, w.G a = none) : Same w.G (w.frzT i as).G := fun a o h => by
  show (if a ∈ as then w.H a else w.G a) = some o
  rw [if_neg fun z => by rw [ho a z] at h; cases h]
  exact h
theorem frzT_at (i : Option Nat) : ∀ a ∈ as, (w.frzT i as).G a = w.H a := fun a ha => if_pos ha
theorem frzT_out (i : Option Nat) {a : Addr} (h : a ∉ as) : (w.frzT i as).G a = w.G a := if_neg h
theorem frzT_sub (i : Option Nat) (m : Mt C π e σ w) : Same (w.frzT i as).G w.H := fun a o h => by
  have h' : (if a ∈ as then w.H a else w.G a) = some o := h
  split at h'
  · exact h'
  · exact m.sub a o h'
theorem Mt.frzTb (m : Mt C π e σ w) (ho : ∀ a ∈ as, w.G a = none) (hn : ∀ a ∈ as, ∀ i, ¬ w.fp i a) : Mt C π e σ (w.frzT none as) := by
  have e1 : ∀ j, (w.frzT none as).fp j = w.fp j := fun j => by funext a; exact propext ⟨fun z => z.1, fun z => ⟨z, nofun⟩⟩
  refine ⟨m.len, frzT_sub none m, m.tg.more (frzT_same none ho), fun j b q => ?_, fun j q a z => m.non j q a z.1, fun j k a x y => m.dis j k a x.1 y.1, m.pin⟩
  obtain ⟨v, h1, h2⟩ := m.bok j b q
  rw [e1]
  exact ⟨v, h1, h2.mono (frzT_same none ho) fun a ha => ⟨rfl, frzT_out none fun z => hn a z j ha⟩⟩
theorem Frm.frzTb (f : Frm w0 w) (hp : ∀ a ∈ as, w0.H a = none ∨ ∃ i, w0.fp i a) (ho : ∀ a ∈ as, w.G a = none) : Frm w0 (w.frzT none as) := by
  refine ⟨f.g.trans (frzT_same none ho), fun a o h n => ?_, f.t⟩
  obtain ⟨h1, h2, h3⟩ := f.k a o h n
  refine ⟨h1, (frzT_out none fun z => ?_).trans h2, fun i z => h3 i z.1⟩
  rcases hp a z with q | ⟨i, q⟩
  · rw [q] at h; cases h
  · exact n i q
theorem Mt.frzTs {i : Nat} {b b' : B} {v : V} (m : Mt C π e σ w) (hb : at? e i = some b) (hv : σ[i]? = some (some v)) (ho : ∀ a ∈ as, w.G a = none) (hf : ∀ a, w.fp i a ↔ a ∈ as) (hb' : BOk C (w.frzT (some i) as).G w.H b' v fun _ => False) :
    Mt C π (e.set i (some b')) σ (w.frzT (some i) as) := by
  refine ⟨by rw [List.length_set]; exact m.len, frzT_sub _ m, m.tg.more (frzT_same _ ho), fun j c q => ?_, fun j q a z => ?_, fun j k a x y => m.dis j k a x.1 y.1, m.pin⟩
  · by_cases hj : i = j
    · subst hj
      rw [at_set_same hb] at q
      cases q
      have e1 : (w.frzT (some i) as).fp i = fun _ => False := by funext a; exact propext ⟨fun z => z.2 rfl, fun z => z.elim⟩
      rw [e1]
      exact ⟨v, hv, hb'⟩
    · rw [at_set_ne hj] at q
      obtain ⟨u, h1, h2⟩ := m.bok j c q
      have e1 : (w.frzT (some i) as).fp j = w.fp j := by funext a; exact propext ⟨fun z => z.1, fun z => ⟨z, fun q => hj (Option.some.inj q).symm⟩⟩
      rw [e1]
      exact ⟨u, h1, h2.mono (frzT_same _ ho) fun a ha => ⟨rfl, frzT_out _ fun z => hj (m.dis i j a ((hf a).mpr z) ha)⟩⟩
  · by_cases hj : i = j
    · subst hj
      exact z.2 rfl
    · rw [at_set_ne hj] at q
      exact m.non j q a z.1
theorem Frm.frzTs {i : Nat} (f : Frm w0 w) (ho : ∀ a ∈ as, w.G a = none) (hf : ∀ a, w.fp i a ↔ a ∈ as) : Frm w0 (w.frzT (some i) as) := by
  refine ⟨f.g.trans (frzT_same _ ho), fun a o h n => ?_, f.t⟩
  obtain ⟨h1, h2, h3⟩ := f.k a o h n
  exact ⟨h1, (frzT_out _ fun z => h3 i ((hf a).mpr z)).trans h2, fun j z => h3 j z.1⟩
end
theorem fz_sound {C : Cc} {π : List (Nat × V)} {e e' : Env} {σ : St} {w0 w : WS} {o : O} {v : V} {d : PyData} (m : Mt C π e σ w) (f : Frm w0 w) (h : OOk C σ w0 w o v) (hz : fz e o = some (d, e')) :
    ∃ w', Mt C π e' σ w' ∧ Frm w0 w' ∧ w'.H = w.H ∧ Rp C.K w'.G v d := by
  cases o with
  | s i =>
    have hv : σ[i]? = some (some v) := h
    unfold fz at hz
    cases q : at? e i with
    | none => simp [q] at hz
    | some b =>
      obtain ⟨u, h1, h2⟩ := m.bok i b q
      rw [hv] at h1
      cases h1
      cases b with
      | fr d' =>
        simp only [q] at hz
        cases hz
        exact ⟨w, m, f, rfl, h2.1⟩
      | ow ds =>
        simp only [q] at hz
        cases hz
        obtain ⟨p, xs, rfl, g1, g2, g4, g3⟩ := h2
        have sG : Same w.G (upd w.G p (.lst xs)) := fun a u q => by rw [upd_ne (ne_of_none q g1)]; exact q
        have r : Rp C.K (upd w.G p (.lst xs)) (.ref p) (.list ds) := .lst upd_same (g4.mono sG)
        exact ⟨w.frzO i p (.lst xs), m.frzO q hv g2 g1 g3 ⟨r, fun _ z => z⟩, f.frzO g1 ((g3 p).mpr rfl), rfl, r⟩
      | od ds =>
        simp only [q] at hz
        cases hz
        obtain ⟨p, xs, rfl, g1, g2, g4, g5, g3⟩ := h2
        have sG : Same w.G (upd w.G p (.dK xs)) := fun a u q => by rw [upd_ne (ne_of_none q g1)]; exact q
        have r : Rp C.K (upd w.G p (.dK xs)) (.ref p) (.dict ds) := .dic upd_same g4 (g5.mono sG)
        exact ⟨w.frzO i p (.dK xs), m.frzO q hv g2 g1 g3 ⟨r, fun _ z => z⟩, f.frzO g1 ((g3 p).mpr rfl), rfl, r⟩
      | ex c => simp [q] at hz
      | rs n d' => simp [q] at hz
      | sc ns => simp [q] at hz
      | tr t =>
        simp only [q] at hz
        cases qd : t.dat with
        | none => rw [qd] at hz; cases hz
        | some d' =>
          rw [qd] at hz
          cases hz
          obtain ⟨as, g1, g2, g3⟩ := h2
          have ho := fun a ha => (g1.own a ha).1
          have r := g1.rp (frzT_same (some i) ho) (frzT_at (some i)) qd
          exact ⟨w.frzT (some i) as, m.frzTs q hv ho g3 ⟨r, fun _ z => z⟩, f.frzTs ho g3, rfl, r⟩
  | b b =>
    obtain ⟨fp, h1, h2⟩ := h
    cases b with
    | fr d' =>
      cases hz
      exact ⟨w, m, f, rfl, h1.1⟩
    | ow ds =>
      cases hz
      obtain ⟨p, xs, rfl, g1, g2, g4, g3⟩ := h1
      have hp := h2 p ((g3 p).mpr rfl)
      have sG : Same w.G (upd w.G p (.lst xs)) := fun a u q => by rw [upd_ne (ne_of_none q g1)]; exact q
      exact ⟨w.frz p (.lst xs), m.frz g2 g1 hp.2, f.frz hp.1 g1, rfl, .lst upd_same (g4.mono sG)⟩
    | od ds =>
      cases hz
      obtain ⟨p, xs, rfl, g1, g2, g4, g5, g3⟩ := h1
      have hp := h2 p ((g3 p).mpr rfl)
      have sG : Same w.G (upd w.G p (.dK xs)) := fun a u q => by rw [upd_ne (ne_of_none q g1)]; exact q
      exact ⟨w.frz p (.dK xs), m.frz g2 g1 hp.2, f.frz hp.1 g1, rfl, .dic upd_same g4 (g5.mono sG)⟩
    | ex c => cases hz
    | rs n d' => cases hz
    | sc ns => cases hz
    | tr t =>
      have hz' : (t.dat.map fun d => (d, e)) = some (d, e') := hz
      cases qd : t.dat with
      | none => rw [qd] at hz'; cases hz'
      | some d' =>
        rw [qd] at hz'
        cases hz'
        obtain ⟨as, g1, g2, g3⟩ := h1
        have ho := fun a ha => (g1.own a ha).1
        exact ⟨w.frzT none as, m.frzTb ho fun a ha => (h2 a ((g3 a).mpr ha)).2, f.frzTb (fun a ha => (h2 a ((g3 a).mpr ha)).1) ho, rfl, g1.rp (frzT_same none ho) (frzT_at none) qd⟩
theorem fzB_sound {C : Cc} {π : List (Nat × V)} {e e' : Env} {σ : St} {w0 w : WS} {o : O} {v : V} {b : B} (m : Mt C π e σ w) (f : Frm w0 w) (h : OOk C σ w0 w o v) (hz : fzB e o = some (b, e')) :
    ∃ w', Mt C π e' σ w' ∧ Frm w0 w' ∧ w'.H = w.H ∧ BOk C w'.G w'.H b v (fun _ => False) := by
  have main : ∀ o', o' = o → (fz e o').map (fun p => (B.fr p.1, p.2)) = some (b, e') → ∃ w', Mt C π e' σ w' ∧ Frm w0 w' ∧ w'.H = w.H ∧ BOk C w'.G w'.H b v (fun _ => False) := by
    rintro o' rfl hq
    cases q : fz e o' with
    | none => rw [q] at hq; cases hq
    | some p =>
      rw [q] at hq
      cases hq
      obtain ⟨w', h1, h2, h3, h4⟩ := fz_sound (e' := p.2) m f h q
      exact ⟨w', h1, h2, h3, h4, fun _ z => z⟩
  cases o with
  | s i =>
    cases q : at? e i with
    | none =>
      simp only [fzB, q] at hz
      exact main _ rfl hz
    | some c =>
      simp only [fzB, q] at hz
      cases c with
      | ex c =>
        cases hz
        have hv : σ[i]? = some (some v) := h
        obtain ⟨u, h1, h2⟩ := m.bok i _ q
        rw [hv] at h1
        cases h1
        exact ⟨w, m, f, rfl, h2.1, fun _ z => z⟩
      | fr d => exact main _ rfl hz
      | ow d => exact main _ rfl hz
      | od d => exact main _ rfl hz
      | rs n d => exact main _ rfl hz
      | tr t => exact main _ rfl hz
      | sc ns =>
        cases hz
        have hv : σ[i]? = some (some v) := h
        obtain ⟨u, h1, h2⟩ := m.bok i _ q
        rw [hv] at h1
        cases h1
        exact ⟨w, m, f, rfl, h2.1, fun _ z => z⟩
  | b c =>
    cases c with
    | ex c =>
      cases hz
      obtain ⟨fp, h1, h2⟩ := h
      exact ⟨w, m, f, rfl, h1.1, fun _ z => z⟩
    | fr d => exact main _ rfl hz
    | ow d => exact main _ rfl hz
    | od d => exact main _ rfl hz
    | rs n d => exact main _ rfl hz
    | tr t => exact main _ rfl hz
    | sc ns =>
      cases hz
      obtain ⟨fp, h1, h2⟩ := h
      exact ⟨w, m, f, rfl, h1.1, fun _ z => z⟩
/-- what is read -/
theorem res_sound {C : Cc} {π : List (Nat × V)} {e : Env} {σ : St} {w0 w : WS} {o : O} {v : V} {d : PyData} (m : Mt C π e σ w) (h : OOk C σ w0 w o v) (hr : res e o = some d) : Rq C.K w.G w.H v d := by
  cases o with
  | s i =>
    have hv : σ[i]? = some (some v) := h
    cases q : at? e i with
    | none => simp [res, q] at hr
    | some b =>
      simp only [res, q, Option.bind_some] at hr
      obtain ⟨u, h1, h2⟩ := m.bok i _ q
      rw [hv] at h1
      cases h1
      exact h2.dat m.sub hr
  | b b =>
    obtain ⟨fp, h1, h2⟩ := h
    exact h1.dat m.sub hr
end VL
set_option maxRecDepth 100000
namespace VL
open PySem L2 PySem.Spec PyProof.Rows
/-- sys.modules stands in the ground -/
def SmB (base : Heap) : Prop := ∃ o, base.get? sysModules = some o
/-- FnOk where no guard stands around -/
structure FnG (P : Program) (w : World) (K : PySem.W.Frag) (mg : Str → Option Value) (base : Heap) (k : Nat) (f : Addr) (fd : FuncData) (ps : List Str) (sp : Sp) : Prop where
  cnt : ∀ vs H Q E, sp vs H Q E → vs.length = ps.length
  go : ∀ (A : Around) (out : List PySem.Env) (s : Shared) (H : Hp) (ar : Args) (us : List Value) (vs : List V) (Q : VK) (E : XK), Room k A → A.guards = some [] → SmB base → Env0 P w K mg base A out s H → BindsTo s fd ar (ps.zip us) → Vals vs us → sp vs H Q E →
    codeAny (model P w) A (.call (.ref f) ar) (CR (L2.CX P w) out P w H s Q E) s
section
variable {X : Cx} {k : Nat} {f : Addr} {fd : FuncData} {ps : List Str} {sp : Sp} {E : L2.St → XK} {x : Str} {p pos : Pos} {e : Expr} {es : List Expr} {t : TA}
theorem FnG.runs {pins : List (Addr × Obj)} {σ : L2.St} {H : Hp} {s : Shared} {Q : VK} {us : List Value} {vs : List V} (Fg : FnG X.prog X.w X.K X.mg X.base k f fd ps sp) (rm : Room k X.A) (gd : X.A.guards = some []) (sm : SmB X.base) (bn : Binds X.K fd ps [])
    (ps1 : PassesAt (L2.CX X.prog X.w) X σ (E σ)) (J : Inv X pins σ H s) (rv : Vals vs us) (hs : sp vs H Q (E σ)) : wpAny (model X.prog X.w) X.A (call (.ref f) us) (EP X pins σ Q) X.xe s := by
  have ln : us.length = ps.length := rv.length.symm.trans (Fg.cnt _ _ _ _ hs)
  have bb := bn s us J.kIn (by rw [List.append_nil, ln]); rw [List.append_nil] at bb
  refine wpAny_call (codeAny_mono (Fg.go X.A X.stack s H ⟨us, []⟩ us vs Q (E σ) rm gd sm J.env0 bb rv hs) fun res s2 ce => ?_)
  rcases res with er | fl
  · exact ps1 pins H s er s2 J ce
  · rcases fl with _ | _ | _ | u
    all_goals first | exact J.after ce | exact ce.elim
theorem pe_callG (Fg : FnG X.prog X.w X.K X.mg X.base k f fd ps sp) (rm : Room k X.A) (gd : X.A.guards = some []) (sm : SmB X.base) (gl : Gl X x) (mm : X.mg x = some (.ref f)) (kk : PySem.W.keepIn X.K (.ref f) = true) (bn : Binds X.K fd ps []) (px : ∀ σ, PassesAt (L2.CX X.prog X.w) X σ (E σ))
    (pa : PA X (e :: es) t) (db : (x == ("__debug__" : Str)) = false) (he : starEach (e :: es) X.env = (false, eval e X.env) :: starEach es X.env) (hp : (backTo pos (starEach es X.env)).any (·.1) = false) :
    PE X (.Call (.Name x p) (e :: es) [] pos) (tCallS sp E t) := by
  refine ⟨fun pins s σ H Q J h => wpAny_Call_Name_kw (ld_glob J gl mm (PySem.W.callWith_K (h₀ := X.base) J.ok.mod.kin kk (thn (pa.run pos pins s σ H _ J h) fun us s1 ⟨vs, H1, J1, r, q⟩ => ⟨J1.kIn, ?_⟩) he hp) db)⟩
  exact Fg.runs rm gd sm bn (px σ) J1 r q
end
section
variable {P : Program} {w : World} {K : PySem.W.Frag} {mg : Str → Option Value} {base : Heap} {x qual : Str} {params : Arguments} {body : List Stmt} {scope : Scope} {dvs : List V} {kws : List (Str × V)} {f : Addr} {fd : FuncData}
theorem fnG_of {N ps : List Str} {k : Nat} {sp : Sp} (F : FunD K x qual params body scope dvs kws f fd) (S : FnScope N ps scope) (cn : ∀ vs H Q E, sp vs H Q E → vs.length = ps.length)
    (hb : ∀ (cdv : Value) (A : Around) (out : List PySem.Env) (s : Shared) (H : Hp) (vs : List V) (Q : VK) (E : XK), Room k (A.deeper (envOfC qual scope s.heap.objs.size f cdv)) → A.guards = some [] → SmB base → sp vs H Q E →
      ∃ t, PSs (cxOf (L2.CX P w) P w K mg base N qual scope f cdv A out s H E) body t ∧ t { nx := fun _ H' => Q .non H', rt := Q } (L2.start N vs) H) : FnG P w K mg base (k + 1) f fd ps sp := by
  obtain ⟨oc, od, dV, kV, doc, pm, an, cdv, ct, osl, rfl, lk, hcd, _, _⟩ := F.ex
  refine ⟨cn, fun A out s H ar us vs Q E rm gd sm e0 bd rv hs => ?_⟩
  have kin : K.In s.heap := e0.mod.kin.keeps fun b o z => (e0.bs b o z).1
  have nol : s.heap.NoLimit := e0.mod.nolimit.keeps fun b o z => (e0.bs b o z).1
  have kinds : ∀ y ∈ ps.zip us, scope.names.lookup y.1 = some .local ∨ (scope.names.lookup y.1 = some .cell ∧ ((cellsFrom (s.heap.objs.size + 1) scope.names []).lookup y.1).isSome = true) := by
    rintro ⟨n, v⟩ hy
    exact (S.par n (List.of_mem_zip hy).1).elim .inl fun z => .inr ⟨z, PySem.W.cellsFrom_some _ _ _ (.inl z)⟩
  refine codeAny_call_function rm.depth (kin _ _ lk) rfl S.co S.gen rfl (PySem.W.codeRec_of kin hcd) (bd _ _ _ _ (wpAny_newFunctionEnv_cells S.kind kinds fun env he s1 ic => ?_))
  subst he
  refine ⟨nol.keeps ic.toInCall.keep, codeAny_func ?_⟩
  obtain ⟨t, pt, qt⟩ := hb cdv A out s H vs Q E (rm.deeper _) gd sm hs
  refine wpAny_mono (pt.run [] s1 (L2.start N vs) H _ (inv_start S rm.hd e0 (cn _ _ _ _ hs) rv ic) qt) (fun fl s' z => ?_) fun er s' z => z
  have done : ∀ {σ' : L2.St} {H' : Hp} {v : V} {u : Value}, Inv (cxOf (L2.CX P w) P w K mg base N qual scope f cdv A out s H E) [] σ' H' s' → RelV v u → Q v H' → CE out P w H s Q u s' :=
    fun {_ H' v _} J r2 q => ⟨v, H', J.os, J.bare, J.base, J.hok, r2, q⟩
  rcases fl with _ | _ | _ | u
  all_goals first
    | (obtain ⟨v, σ', H', J, r2, q⟩ := z; exact done J r2 q)
    | (obtain ⟨σ', H', J, q⟩ := z; exact done (v := V.non) (u := Value.none) J rfl q)
    | (obtain ⟨_, _, _, q⟩ := z; exact q.elim)
end
end VL
set_option maxRecDepth 100000
namespace VL
open PySem L2 PySem.Spec PyProof.Rows
theorem ends_of {P : Program} {w : World} {K : PySem.W.Frag} {mg mb : Str → Option Value} {k : Nat} {fa a : Addr} {fd : FuncData} {x : Str} {sp : Sp} {s₁ : Shared} {vs : List Value} {H : Hp}
    (kx : K.In s₁.heap) (gl : s₁.heap.Ns mainGlobals mg) (bl : s₁.heap.Ns builtinsNs mb) (bb : ∀ x : Str, x ≠ "__name__" → mb x = bootBuiltins x) (nl : s₁.heap.NoLimit) (smn : ∃ mm, s₁.heap.Ns sysModules mm) (gn : s₁.gens = #[])
    (ea : s₁.heap.get? a = some { cls := .type "list", data := .seq vs.toArray }) (rm : Room k callerA)
    (Fg : ∀ base : Heap, K.In base → base.Ns mainGlobals mg → FnG P w K mg base k fa fd [x] sp) (bd : ∀ (s : Shared) (u : Value), BindsTo s fd ⟨[u], []⟩ [(x, u)])
    (on : Only H) (ok : HOk P w H s₁.heap) (oa : ∀ b, H b ≠ none → b = a) (ka : H a ≠ none → K.lookup a = none) (hsp : sp [.ref a] H (fun v _ => v = .bl true) fun _ _ _ => False) :
    codeAny (model P w) callerA (.call (.ref fa) ⟨[.ref a], []⟩) (fun r s' => r = .ok (.ret (.bool true)) ∧ OldK s₁.heap s'.heap ∧ s'.os = s₁.os ∧ AllBare s'.gens) s₁ := by
  have hid : ∀ {b : Addr} {o : Obj}, s₁.heap.get? b = some o → H b = none → (hidT s₁.heap H).get? b = some o := hidT_get
  have notd : ∀ {b : Addr} {o : Obj} {es : Array DictEntry} {ep : Nat}, s₁.heap.get? b = some o → o.data = .dict es ep → H b = none := by
    intro b o es ep z dz
    by_cases q : H b = none
    · exact q
    · obtain rfl := oa b q
      rw [ea] at z
      obtain rfl := Option.some.inj z
      cases (show Data.seq vs.toArray _ = Data.dict es ep from dz)
  have nss : ∀ {b : Addr} {m : Str → Option Value}, s₁.heap.Ns b m → (hidT s₁.heap H).Ns b m := by
    rintro b m ⟨o, es, ep, z, dz, rr⟩
    exact ⟨o, es, ep, hid z (notd z dz), dz, rr⟩
  have kb : K.In (hidT s₁.heap H) := by
    intro b o z
    refine hid (kx b o z) ?_
    by_cases q : H b = none
    · exact q
    · obtain rfl := oa b q
      rw [ka q] at z
      cases z
  obtain ⟨mc, n1, n2⟩ := nl
  have md : Mod K mg (hidT s₁.heap H) := ⟨kb, nss gl, ⟨mb, nss bl, bb⟩, ⟨mc, nss n1, n2⟩⟩
  have en : Env0 P w K mg (hidT s₁.heap H) callerA [] s₁ H := ⟨rfl, md, fun b o z => of_hidT z, Nat.le_of_eq (hidT_size _ _), trivial, nofun, ok, .of_eq gn⟩
  refine codeAny_mono ((Fg _ kb (nss gl)).go callerA [] s₁ H ⟨[.ref a], []⟩ [.ref a] [.ref a] _ _ rm rfl (let ⟨mm, zz⟩ := smn; let ⟨o, _, _, z1, _⟩ := nss zz; ⟨o, z1⟩) en (bd s₁ (.ref a)) (.cons rfl .nil) hsp) ?_
  rintro (er | fl) s' hh
  · obtain ⟨_, _, _, _, _, _, _, _, _, _, _, _, z⟩ := hh
    exact z.elim
  · rcases fl with _ | _ | _ | u
    · exact False.elim hh
    · exact False.elim hh
    · exact False.elim hh
    obtain ⟨v, H', os, br, un, ok', rr, qq⟩ := hh
    obtain rfl : v = .bl true := qq
    obtain rfl : u = Value.bool true := rr
    refine ⟨rfl, OldK.of_keep fun b o z => ?_, os, br⟩
    rcases on b with q | ⟨ob, xs, q⟩
    · exact un.keep b o z q nofun nofun
    · obtain ⟨z1, _⟩ := ok b _ q
      obtain ⟨z2, _⟩ := ok' b _ (un.frzs b ob _ q)
      rw [z] at z1
      cases z1
      exact z2
theorem law_ends {P : Program} {w : World} {K : PySem.W.Frag} {mg mb : Str → Option Value} {k : Nat} {fa a : Addr} {fd : FuncData} {x : Str} {sp : Sp} {s₁ : Shared} {vs : List Value} {ns : List Int}
    (kx : K.In s₁.heap) (gl : s₁.heap.Ns mainGlobals mg) (bl : s₁.heap.Ns builtinsNs mb) (bb : ∀ x : Str, x ≠ "__name__" → mb x = bootBuiltins x) (nl : s₁.heap.NoLimit) (smn : ∃ mm, s₁.heap.Ns sysModules mm) (gn : s₁.gens = #[])
    (ea : s₁.heap.get? a = some { cls := .type "list", data := .seq vs.toArray }) (ia : IntsAre vs ns) (hl : ns.length ≤ sizeLine) (rm : Room k callerA)
    (Fg : ∀ base : Heap, K.In base → base.Ns mainGlobals mg → FnG P w K mg base k fa fd [x] sp) (bd : ∀ (s : Shared) (u : Value), BindsTo s fd ⟨[u], []⟩ [(x, u)])
    (hsp : ∀ H : Hp, Only H → SqL K H a (ns.map V.int) → sp [.ref a] H (fun v _ => v = .bl true) fun _ _ _ => False) :
    codeAny (model P w) callerA (.call (.ref fa) ⟨[.ref a], []⟩) (fun r s' => r = .ok (.ret (.bool true)) ∧ OldK s₁.heap s'.heap ∧ s'.os = s₁.os ∧ AllBare s'.gens) s₁ := by
  have vv := vals_ints ia
  by_cases hk : K.lookup a = none
  · let G : Hp := fun b => if b = a then some (.frz { cls := .type "list", data := .seq vs.toArray } (.lst (ns.map V.int))) else none
    have gs : G a = some (.frz { cls := .type "list", data := .seq vs.toArray } (.lst (ns.map V.int))) := if_pos rfl
    have gn' : ∀ b, b ≠ a → G b = none := fun b z => if_neg z
    have oa : ∀ b, G b ≠ none → b = a := fun b z => Decidable.byContradiction fun n => z (gn' b n)
    have on : Only G := fun b => by
      by_cases z : b = a
      · subst z; exact .inr ⟨_, _, gs⟩
      · exact .inl (gn' b z)
    refine ends_of kx gl bl bb nl smn gn ea rm Fg bd on (fun b u z => ?_) oa (fun _ => hk) (hsp G on (.inl (.inr ⟨_, gs⟩)))
    obtain rfl := oa b (by rw [z]; exact nofun)
    rw [gs] at z
    obtain rfl := Option.some.inj z
    exact ⟨ea, by rw [List.length_map]; exact hl, vs, _, vv, ea⟩
  · obtain ⟨o, ho⟩ := Option.ne_none_iff_exists'.mp hk
    have z := kx a o ho
    rw [ea] at z
    obtain rfl := Option.some.inj z
    have on : Only (fun _ => none) := fun _ => .inl rfl
    refine ends_of kx gl bl bb nl smn gn ea rm Fg bd on (fun b u q => nomatch (show (none : Option HO) = some u from q)) (fun b q => absurd rfl q) (fun q => absurd rfl q) (hsp _ on ?_)
    exact .inr ⟨_, vs.toArray, _, ho, rfl, rfl, rfl, by rw [List.size_toArray, ia.length]; exact hl, by simpa using vv⟩
/-- a law's end, by facts of the head -/
theorem walk_ofG {l : PySem.W.OpenLaw} {n k : Nat} {q : Program} {loose : List Str} {XP : (Str → Option Value) → Heap → Prop} {YP : World → Heap → Prop} {d : DefRec} {x : Str}
    (hn : l.most = some n) (hn2 : n ≤ sizeLine) (hdf : d.params.defaults = []) (hr : Room k callerA) (him : importsNone q = true)
    (F : ∀ (w : World) (mg : Str → Option Value) (fa : Addr) (h : Heap), YP w h → h.Ns mainGlobals mg → mg d.name = some (.ref fa) →
      ∃ (K : PySem.W.Frag) (fd : FuncData) (sp : Sp), K.In h ∧ (∀ (s : Shared) (u : Value), PySem.BindsTo s fd ⟨[u], []⟩ [(x, u)]) ∧
        (∀ (H : Hp) (a : Addr) (ns : List Int), ns.length ≤ n → Only H → SqL K H a (ns.map V.int) → sp [.ref a] H (fun v _ => v = .bl true) fun _ _ _ => False) ∧
        ∀ base : Heap, K.In base → base.Ns mainGlobals mg → FnG l.prog w K mg base k fa fd [x] sp) :
    PySem.W.WalkO q loose XP YP l.row.toRowW d [] (fun f vs => PySem.call f vs) := by
  refine Att.attach_call hn hdf ?_
  intro w s₀ s₁ mg mb fa o pm cd doc a vs ns G Y ho hd hcd hmg hobj hints hlen hg
  obtain ⟨K, fd, sp, KX, hb, hsp, hF⟩ := F w mg fa _ Y G.T.g hmg
  exact law_ends KX G.T.g G.T.b G.T.builtins G.T.nolimit (let ⟨mm, z, _⟩ := (G.T.seer him).mods; ⟨mm, z⟩) hg hobj hints (Nat.le_trans hlen hn2) hr hF hb fun H hO hS => hsp H a ns hlen hO hS
end VL
set_option maxRecDepth 100000
namespace VL
open PySem L2
/-- what stands around: no error in hand, room, names of their own, the built-ins -/
structure Vx (X : Cx) (W : WX) : Prop where
  calm : X.calm = true
  room : Room 1 X.A
  gd : X.A.guards = some []
  sm : SmB X.base
  nd : X.N.Nodup
  tk : Takes X W
  po : PassesOwn (model X.prog X.w) X.A X.env X.xe
def cc (X : Cx) (ρ : Nat → Res) : Cc := ⟨X.K, X.mg, ρ⟩
def VE (X : Cx) (ρ : Nat → Res) (W : WX) (e : Expr) (f : FE) : Prop := ∃ t, PE X e t ∧ SE (cc X ρ) W t f
def VD (X : Cx) (ρ : Nat → Res) (W : WX) (es : List Expr) (f : FD) : Prop := ∃ t, PA X es t ∧ SD (cc X ρ) W t f
def VA (X : Cx) (ρ : Nat → Res) (W : WX) (es : List Expr) (f : FA) : Prop := ∃ t, PA X es t ∧ SA (cc X ρ) W t f
def VT (X : Cx) (ρ : Nat → Res) (W : WX) (e : Expr) (f : FT) : Prop := ∃ t, PT X e t ∧ ST (cc X ρ) W t f
/-- and, or: whatever the whole is -/
def VW (X : Cx) (ρ : Nat → Res) (W : WX) (e : Expr) (f : FT) : Prop := ∃ t, PW X e t ∧ ST (cc X ρ) W t f
section
variable {C : Cc} {π : List (Nat × V)} {e : Env} {σ : St} {w : WS} {p : Addr}
theorem Mt.notOwned (m : Mt C π e σ w) (hp : w.H p = none) (i : Nat) : ¬ w.fp i p := fun h => by
  obtain ⟨_, o, ho⟩ := m.own h
  rw [hp] at ho
  cases ho
/-- a new list -/
theorem mk_lst {zs : List V} {es : List PyData} (m : Mt C π e σ w) (hp : w.H p = none) (r : RpAll C.K w.G zs es) :
    Mt C π e σ (w.new p (.lst zs)) ∧ Frm w (w.new p (.lst zs)) ∧ OOk C σ w (w.new p (.lst zs)) (.b (.ow es)) (.ref p) :=
  ⟨m.new hp, .new hp, fun a => a = p, ⟨p, zs, rfl, m.sub.free hp, upd_same, r, fun _ => Iff.rfl⟩, fun a ha => by subst ha; exact ⟨.inl hp, m.notOwned hp⟩⟩
theorem mk_dic {ks : List (Key × V)} {es : List (PyData × PyData)} (m : Mt C π e σ w) (hp : w.H p = none) (k : ks.map (fun q => kP q.1) = es.map (·.1)) (r : RpAll C.K w.G (ks.map (·.2)) (es.map (·.2))) :
    Mt C π e σ (w.new p (.dK ks)) ∧ Frm w (w.new p (.dK ks)) ∧ OOk C σ w (w.new p (.dK ks)) (.b (.od es)) (.ref p) :=
  ⟨m.new hp, .new hp, fun a => a = p, ⟨p, ks, rfl, m.sub.free hp, upd_same, k, r, fun _ => Iff.rfl⟩, fun a ha => by subst ha; exact ⟨.inl hp, m.notOwned hp⟩⟩
/-- a new tuple, frozen -/
theorem mk_tup {zs : List V} {es : List PyData} (m : Mt C π e σ w) (hp : w.H p = none) (r : RpAll C.K w.G zs es) :
    ∃ w', Mt C π e σ w' ∧ Frm w w' ∧ w'.H = upd w.H p (.tup zs) ∧ OOk C σ w w' (.b (.fr (.tuple es))) (.ref p) := by
  have hG : w.G p = none := m.sub.free hp
  have sG : Same w.G (upd w.G p (.tup zs)) := fun a u q => by rw [upd_ne (ne_of_none q hG)]; exact q
  refine ⟨(w.new p (.tup zs)).frz p (.tup zs), m.newF hp, (Frm.new hp).frz (.inl hp) hG, rfl, .fr (.tup upd_same (r.mono sG))⟩
end
section
variable {X : Cx} {ρ : Nat → Res} {W : WX} {a b c : Expr} {pos : Pos} {fa fb fc : FE} {ta tb tc : FT}
theorem ve_var (i : Nat) {x : Str} (hN : X.N[i]? = some x := by rfl) (hv : Vis X.env.scope x := by first | exact Or.inl rfl | exact Or.inr (Or.inl rfl) | exact Or.inr (Or.inr rfl)) (hd : (x == ("__debug__" : Str)) = false := by decide)
    (hcd : (x == ("__classdict__" : Str)) = false := by decide) : VE X ρ W (.Name x pos) (fVar i) := by
  refine ⟨_, pe_var hN hv hd hcd, fun π e σ w Q m h => ?_⟩
  unfold fVar at h
  cases q : at? e i with
  | none => rw [q] at h; exact h.elim
  | some b =>
    rw [q] at h
    obtain ⟨v, h1, h2⟩ := m.bok i b q
    exact ⟨v, h1, h v w m (.refl w) h1⟩
theorem se_c {C : Cc} {v : V} {d : PyData} (h : ∀ G, Rp C.K G v d) : SE C W (tC v) (fC d) := fun π e σ w Q m k => k v w m (.refl w) (.fr (h _))
theorem ve_int {i j} : VE X ρ W (.Constant (.int i) j pos) (fC (.int i)) := ⟨_, pe_int, se_c fun _ => .int i⟩
theorem ve_bl {i j} : VE X ρ W (.Constant (.bool i) j pos) (fC (.bool i)) := ⟨_, pe_bl, se_c fun _ => .bl i⟩
/-- a constant of the module -/
theorem ve_glob {x : Str} {v : V} {u : Value} {d : PyData} (hm : X.mg x = some u) (r : RelV v u) (h : ∀ G, Rp X.K G v d) (hg : Gl X x := by rfl) (hd : (x == ("__debug__" : Str)) = false := by decide) : VE X ρ W (.Name x pos) (fC d) :=
  ⟨_, pe_glob hg hm r hd, se_c h⟩
def OpV (X : Cx) (ρ : Nat → Res) (F : Value → Value → Sem Value) (op : PyData → PyData → Option B) : Prop := ∃ r, OpR X F r ∧
  ∀ π e σ w x y dx dy z Q, Mt (cc X ρ) π e σ w → Rq X.K w.G w.H x dx → Rq X.K w.G w.H y dy → op dx dy = some z → (∀ v w', Mt (cc X ρ) π e σ w' → Frm w w' → OOk (cc X ρ) σ w w' (.b z) v → Q v w'.H) → r x y w.H Q
theorem se_bin {C : Cc} {r : R2} {op : PyData → PyData → Option B} {ta tb : TE} (hr : ∀ π e σ w x y dx dy z Q, Mt C π e σ w → Rq C.K w.G w.H x dx → Rq C.K w.G w.H y dy → op dx dy = some z → (∀ v w', Mt C π e σ w' → Frm w w' → OOk C σ w w' (.b z) v → Q v w'.H) → r x y w.H Q)
    (ha : SE C W ta fa) (hb : SE C W tb fb) : SE C W (tOp r ta tb) (fBin op fa fb) := fun π e σ w Q m h => by
  refine ha π e σ w _ m (h.bnd fun o1 e1 v1 w1 m1 f1 k1 h1 => ?_)
  refine hb π e1 σ w1 _ m1 ((h1.from f1).bnd fun o2 e2 v2 w2 m2 f2 k2 h2 => ?_)
  have h3 := h2.from f2
  cases q1 : res e2 o1 with
  | none => rw [q1] at h3; exact h3.elim
  | some d1 =>
    cases q2 : res e2 o2 with
    | none => rw [q1, q2] at h3; exact h3.elim
    | some d2 =>
      rw [q1, q2] at h3
      simp only [Option.bind_some] at h3
      cases q3 : op d1 d2 with
      | none => rw [q3] at h3; exact h3.elim
      | some z =>
        rw [q3] at h3
        exact hr π e2 σ w2 v1 v2 d1 d2 z Q m2 (res_sound m2 (k1.step f2) q1) (res_sound m2 k2 q2) q3 fun v w' m' f' k' => h3 v w' m' f' (k'.base (f1.trans f2))
theorem ve_op {op : Operator} {g : PyData → PyData → Option B} (ho : OpV X ρ (binaryOp op) g) (ha : VE X ρ W a fa) (hb : VE X ρ W b fb) : VE X ρ W (.BinOp a op b pos) (fBin g fa fb) := by
  obtain ⟨r, h1, h2⟩ := ho
  obtain ⟨ta, pa, sa⟩ := ha
  obtain ⟨tb, pb, sb⟩ := hb
  exact ⟨_, pe_op h1 pa pb, se_bin h2 sa sb⟩
theorem ve_cmp {op : CmpOp} {g : PyData → PyData → Option B} (ho : OpV X ρ (compareOp op) g) (ha : VE X ρ W a fa) (hb : VE X ρ W b fb) (hm : behindInMarks op b = false := by first | exact nomark _ | rfl) : VE X ρ W (.Compare a [op] [b] pos) (fBin g fa fb) := by
  obtain ⟨r, h1, h2⟩ := ho
  obtain ⟨ta, pa, sa⟩ := ha
  obtain ⟨tb, pb, sb⟩ := hb
  exact ⟨_, pe_cmpR h1 pa pb hm, se_bin h2 sa sb⟩
theorem se_un {C : Cc} {r : V → Hp → VK → Prop} {op : PyData → Option B} {ta : TE} (hr : ∀ π e σ w x dx z Q, Mt C π e σ w → Rq C.K w.G w.H x dx → op dx = some z → (∀ v w', Mt C π e σ w' → Frm w w' → OOk C σ w w' (.b z) v → Q v w'.H) → r x w.H Q)
    (ha : SE C W ta fa) : SE C W (L2.tUn r ta) (fUn op fa) := fun π e σ w Q m h => by
  refine ha π e σ w _ m (h.bnd fun o1 e1 v1 w1 m1 f1 k1 h1 => ?_)
  have h3 := h1.from f1
  cases q1 : res e1 o1 with
  | none => rw [q1] at h3; exact h3.elim
  | some d1 =>
    rw [q1] at h3
    simp only [Option.bind_some] at h3
    cases q3 : op d1 with
    | none => rw [q3] at h3; exact h3.elim
    | some z =>
      rw [q3] at h3
      exact hr π e1 σ w1 v1 d1 z Q m1 (res_sound m1 k1 q1) q3 fun v w' m' f' k' => h3 v w' m' f' (k'.base f1)
/-- scalars -/
theorem sc_end {C : Cc} {π : List (Nat × V)} {e : Env} {σ : St} {w : WS} {d : PyData} {v : V} {Q : VK} (m : Mt C π e σ w) (k : ∀ v w', Mt C π e σ w' → Frm w w' → OOk C σ w w' (.b (.fr d)) v → Q v w'.H) (h : Rp C.K w.G v d) : Q v w.H :=
  k v w m (.refl w) (.fr h)
def opI (C : Int → Int → Bool) (g : Int → Int → Int) : PyData → PyData → Option B
  | .int i, .int j => if C i j = true then some (.fr (.int (g i j))) else none
  | _, _ => none
theorem opv_I {F : Value → Value → Sem Value} {P : Int → Int → Prop} {C : Int → Int → Bool} {g : Int → Int → Int} (hr : OpR X F (rI P fun i j => .int (g i j))) (hC : ∀ i j, C i j = true → P i j) : OpV X ρ F (opI C g) := by
  refine ⟨_, hr, fun π e σ w x y dx dy z Q m hx hy hz k => ?_⟩
  unfold opI at hz
  split at hz
  · rename_i i j
    split at hz
    · cases hz
      cases hx
      cases hy
      exact ⟨i, j, rfl, rfl, hC i j (by assumption), sc_end m k (.int _)⟩
    · cases hz
  · cases hz
def opI0 (g : Int → Int → Int) : PyData → PyData → Option B
  | .int i, .int j => some (.fr (.int (g i j)))
  | _, _ => none
theorem opv_I0 {F : Value → Value → Sem Value} {g : Int → Int → Int} (hr : OpR X F (rI0 fun i j => .int (g i j))) : OpV X ρ F (opI0 g) := by
  refine ⟨_, hr, fun π e σ w x y dx dy z Q m hx hy hz k => ?_⟩
  unfold opI0 at hz
  split at hz
  · rename_i i j
    cases hz
    cases hx
    cases hy
    exact ⟨i, j, rfl, rfl, sc_end m k (.int _)⟩
  · cases hz
def opB0 (g : Int → Int → Bool) : PyData → PyData → Option B
  | .int i, .int j => some (.fr (.bool (g i j)))
  | _, _ => none
theorem opv_B0 {F : Value → Value → Sem Value} {g : Int → Int → Bool} (hr : OpR X F (rI0 fun i j => .bl (g i j))) : OpV X ρ F (opB0 g) := by
  refine ⟨_, hr, fun π e σ w x y dx dy z Q m hx hy hz k => ?_⟩
  unfold opB0 at hz
  split at hz
  · rename_i i j
    cases hz
    cases hx
    cases hy
    exact ⟨i, j, rfl, rfl, sc_end m k (.bl _)⟩
  · cases hz
abbrev oLt := opB0 fun i j => decide (i < j)
abbrev oLe := opB0 fun i j => decide (i ≤ j)
abbrev oGt := opB0 fun i j => decide (j < i)
abbrev oGe := opB0 fun i j => decide (j ≤ i)
theorem v_lt : OpV X ρ (compareOp .Lt) oLt := opv_B0 op_lt
theorem v_le : OpV X ρ (compareOp .LtE) oLe := opv_B0 op_le
theorem v_gt : OpV X ρ (compareOp .Gt) oGt := opv_B0 op_gt
theorem v_ge : OpV X ρ (compareOp .GtE) oGe := opv_B0 op_ge
abbrev oSub := opI0 fun i j => i - j
theorem v_sub : OpV X ρ (binaryOp .Sub) oSub := opv_I0 op_sub
abbrev oMod := opI (fun _ j => decide (0 < j)) fun i j => i % j
theorem v_mod : OpV X ρ (binaryOp .Mod) oMod := opv_I op_mod fun _ _ h => of_decide_eq_true h
def cPow (i j : Int) : Bool := decide (0 ≤ j) && decide (j.natAbs ≤ 1000000) && decide (i.natAbs < 2 ^ 64)
theorem cPow_ok {i j : Int} (h : cPow i j = true) : 0 ≤ j ∧ j ≤ 1000000 ∧ i.natAbs < 2 ^ 64 := by
  unfold cPow at h
  rw [Bool.and_eq_true, Bool.and_eq_true, decide_eq_true_eq, decide_eq_true_eq, decide_eq_true_eq] at h
  exact ⟨h.1.1, by omega, h.2⟩
abbrev oPow := opI cPow fun i j => i ^ j.toNat
theorem v_pow : OpV X ρ (binaryOp .Pow) oPow := opv_I op_pow fun i j h => cPow_ok h
theorem vt_of (hs : ∀ whole, isTrue a X.env whole = (do let v ← whole; standAt a.pos; holding [v] (truthy v))) (ha : VE X ρ W a fa) : VT X ρ W a (fTest fa) := by
  obtain ⟨t, p, s⟩ := ha
  refine ⟨_, pt_val p hs, fun π e σ w Q m h => ?_⟩
  refine s π e σ w _ m (h.bnd fun o1 e1 v1 w1 m1 f1 k1 h1 => ?_)
  have h3 := h1.from f1
  cases q1 : res e1 o1 with
  | none => rw [q1] at h3; exact h3.elim
  | some d1 =>
    rw [q1] at h3
    cases d1 with
    | bool bb =>
      have r := res_sound m1 k1 q1
      cases r
      exact ⟨bb, rfl, h3 bb w1 m1 (.refl _) rfl⟩
    | none => exact h3.elim
    | int i => exact h3.elim
    | str i => exact h3.elim
    | list i => exact h3.elim
    | tuple i => exact h3.elim
    | dict i => exact h3.elim
theorem st_test {C : Cc} {t : TE} (s : SE C W t fa) : ST C W (tTest t) (fTest fa) := fun π e σ w Q m h => by
  refine s π e σ w _ m (h.bnd fun o1 e1 v1 w1 m1 f1 k1 h1 => ?_)
  have h3 := h1.from f1
  cases q1 : res e1 o1 with
  | none => rw [q1] at h3; exact h3.elim
  | some d1 =>
    rw [q1] at h3
    cases d1 with
    | bool bb =>
      have r := res_sound m1 k1 q1
      cases r
      exact ⟨bb, rfl, h3 bb w1 m1 (.refl _) rfl⟩
    | none => exact h3.elim
    | int i => exact h3.elim
    | str i => exact h3.elim
    | list i => exact h3.elim
    | tuple i => exact h3.elim
    | dict i => exact h3.elim
theorem vt_cmp {op : CmpOp} {g : PyData → PyData → Option B} (ho : OpV X ρ (compareOp op) g) (ha : VE X ρ W a fa) (hb : VE X ρ W b fb) (hm : behindInMarks op b = false := by first | exact nomark _ | rfl) : VT X ρ W (.Compare a [op] [b] pos) (fTest (fBin g fa fb)) := by
  obtain ⟨r, h1, h2⟩ := ho
  obtain ⟨ta, pa, sa⟩ := ha
  obtain ⟨tb, pb, sb⟩ := hb
  exact ⟨_, pt_cmpR h1 pa pb hm, st_test (se_bin h2 sa sb)⟩
theorem VW.vt (h : VW X ρ W a ta) : VT X ρ W a ta := by
  obtain ⟨t, p, s⟩ := h
  exact ⟨t, p.pt, s⟩
theorem vw_or1 (ha : VT X ρ W a ta) : VW X ρ W (.BoolOp .Or [a] pos) ta := by
  obtain ⟨t, p, s⟩ := ha
  exact ⟨t, pw_or1 p, s⟩
theorem st_or {C : Cc} {t u : TT} (s1 : ST C W t ta) (s2 : ST C W u tb) : ST C W (L2.tOr t u) (tOr ta tb) := fun π e σ w Q m h => by
  refine s1 π e σ w _ m (h.bnd fun o1 e1 v1 w1 m1 f1 k1 h1 => ?_)
  subst k1
  have h3 := h1.from f1
  cases o1 with
  | false => rw [if_neg Bool.false_ne_true]; exact s2 π e1 σ w1 _ m1 h3
  | true => rw [if_pos rfl]; exact h3 true w1 m1 (.refl _) rfl
theorem vw_or {rest : List Expr} (ha : VT X ρ W a ta) (hb : VW X ρ W (.BoolOp .Or (b :: rest) pos) tb) : VW X ρ W (.BoolOp .Or (a :: b :: rest) pos) (tOr ta tb) := by
  obtain ⟨t, p, s⟩ := ha
  obtain ⟨t2, p2, s2⟩ := hb
  exact ⟨_, pw_or p p2, st_or s s2⟩
theorem vt_not (ha : VT X ρ W a ta) : VT X ρ W (.UnaryOp .Not a pos) (tNot ta) := by
  obtain ⟨t, p, s⟩ := ha
  refine ⟨_, pt_not p, fun π e σ w Q m h => ?_⟩
  refine s π e σ w _ m (h.bnd fun o1 e1 v1 w1 m1 f1 k1 h1 => ?_)
  subst k1
  exact h1.from f1 (!o1) w1 m1 (.refl _) rfl
end
end VL
set_option maxRecDepth 100000
namespace VL
open PySem L2
section
variable {X : Cx} {ρ : Nat → Res} {W : WX} {a b c : Expr} {es : List Expr} {pos : Pos} {fa fb fc : FE} {ta tb tc : FT} {fd : FD} {as_ : FA}
theorem big_le : big ≤ sizeLine := by decide
theorem le_big {n : Nat} (h : n ≤ big) : n ≤ sizeLine := Nat.le_trans h big_le
theorem vd_nil : VD X ρ W [] dNil := ⟨_, pa_nil, fun π e σ w Q m h => h [] w m (.refl w) .nil⟩
theorem vd_cons (ha : VE X ρ W a fa) (hr : VD X ρ W es fd) (hs : starEach (a :: es) X.env = (false, eval a X.env) :: starEach es X.env := by rfl) : VD X ρ W (a :: es) (dCons fa fd) := by
  obtain ⟨t, p, s⟩ := ha
  obtain ⟨t2, p2, s2⟩ := hr
  refine ⟨_, pa_cons p p2 hs, fun π e σ w Q m h => ?_⟩
  refine s π e σ w _ m (h.bnd fun o1 e1 v1 w1 m1 f1 k1 h1 => ?_)
  cases q1 : fz e1 o1 with
  | none => rw [q1] at h1; exact h1.elim
  | some pr =>
    rw [q1] at h1
    simp only [Option.bind_some] at h1
    obtain ⟨w2, m2, f2, eH, r2⟩ := fz_sound (e' := pr.2) m1 f1 k1 q1
    rw [← eH]
    refine s2 π pr.2 σ w2 _ m2 ((h1.from f2).bnd fun ds e3 vs w3 m3 f3 k3 h3 => ?_)
    exact h3 (v1 :: vs) w3 m3 f3 (.cons (r2.mono f3.g) k3)
theorem ve_lst (h : VD X ρ W es fd) : VE X ρ W (.List es pos) (fLst fd) := by
  obtain ⟨t, p, s⟩ := h
  refine ⟨_, pe_lst p, fun π e σ w Q m h => ?_⟩
  refine s π e σ w _ m (h.bnd fun ds e1 vs w1 m1 f1 k1 h1 => ?_)
  have h2 := h1.from f1
  have hl := k1.length
  split at h2
  · rename_i hz
    refine ⟨by rw [hl]; exact Nat.le_trans hz (by decide), fun p hp => ?_⟩
    obtain ⟨m2, f2, k2⟩ := mk_lst m1 hp k1
    exact h2 _ _ m2 f2 (k2.base f1)
  · exact h2.elim
theorem ve_tup {x1} (h : VD X ρ W es fd) : VE X ρ W (.Tuple es x1 pos) (fTup fd) := by
  obtain ⟨t, p, s⟩ := h
  refine ⟨_, pe_tup p, fun π e σ w Q m h => ?_⟩
  refine s π e σ w _ m (h.bnd fun ds e1 vs w1 m1 f1 k1 h1 => ?_)
  have h2 := h1.from f1
  have hl := k1.length
  split at h2
  · rename_i hz
    refine ⟨by rw [hl]; exact Nat.le_trans hz (by decide), fun p hp => ?_⟩
    obtain ⟨w2, m2, f2, eH, k2⟩ := mk_tup m1 hp k1
    rw [← eH]
    exact h2 _ _ m2 f2 (k2.base f1)
  · exact h2.elim
theorem ve_one {op} (h : VE X ρ W a fa) : VE X ρ W (.BoolOp op [a] pos) fa := by
  obtain ⟨t, p, s⟩ := h
  exact ⟨t, pe_one p, s⟩
theorem ve_and {rest : List Expr} (ha : VE X ρ W a fa) (hb : VE X ρ W (.BoolOp .And (b :: rest) pos) fb) : VE X ρ W (.BoolOp .And (a :: b :: rest) pos) (fAndV fa fb) := by
  obtain ⟨t, p, s⟩ := ha
  obtain ⟨t2, p2, s2⟩ := hb
  refine ⟨_, pe_and p p2, fun π e σ w Q m h => ?_⟩
  refine s π e σ w _ m (h.bnd fun o1 e1 v1 w1 m1 f1 k1 h1 => ?_)
  cases q1 : res e1 o1 with
  | none => rw [q1] at h1; exact h1.elim
  | some d1 =>
    rw [q1] at h1
    have r := res_sound m1 k1 q1
    split at h1
    · rename_i z; cases z; cases r
      exact ⟨true, rfl, by rw [if_pos rfl]; exact s2 π e1 σ w1 _ m1 (Post.reb f1 h1)⟩
    · rename_i z; cases z; cases r
      exact ⟨false, rfl, by rw [if_neg Bool.false_ne_true]; exact h1 _ w1 m1 f1 (.fr (.bl _))⟩
    · exact h1.elim
theorem ve_not (ha : VE X ρ W a fa) : VE X ρ W (.UnaryOp .Not a pos) (fNotV fa) := by
  obtain ⟨t, p, s⟩ := ha
  refine ⟨_, pe_not p, fun π e σ w Q m h => ?_⟩
  refine s π e σ w _ m (h.bnd fun o1 e1 v1 w1 m1 f1 k1 h1 => ?_)
  cases q1 : res e1 o1 with
  | none => rw [q1] at h1; exact h1.elim
  | some d1 =>
    rw [q1] at h1
    have r := res_sound m1 k1 q1
    split at h1
    · rename_i bb z; cases z; cases r
      exact ⟨bb, rfl, h1 _ w1 m1 f1 (.fr (.bl _))⟩
    · exact h1.elim
theorem se_chain {op op' : CmpOp} {g g' : PyData → PyData → Option B} (ho : OpV X ρ (compareOp op) g) (ho' : OpV X ρ (compareOp op') g') (ha : VE X ρ W a fa) (hb : VE X ρ W b fb) (hc : VE X ρ W c fc) :
    ∃ r r' t1 t2 t3, OpR X (compareOp op) r ∧ OpR X (compareOp op') r' ∧ PE X a t1 ∧ PE X b t2 ∧ PE X c t3 ∧ SE (cc X ρ) W (tChain r r' t1 t2 t3) (fChain g g' fa fb fc) := by
  obtain ⟨r, h1, h2⟩ := ho
  obtain ⟨r', h1', h2'⟩ := ho'
  obtain ⟨t1, p1, s1⟩ := ha
  obtain ⟨t2, p2, s2⟩ := hb
  obtain ⟨t3, p3, s3⟩ := hc
  refine ⟨r, r', t1, t2, t3, h1, h1', p1, p2, p3, fun π e σ w Q m h => ?_⟩
  refine s1 π e σ w _ m (h.bnd fun o1 e1 v1 w1 m1 f1 k1 h1 => ?_)
  refine s2 π e1 σ w1 _ m1 ((h1.from f1).bnd fun o2 e2 v2 w2 m2 f2 k2 h2x => ?_)
  have h3 := h2x.from f2
  cases q1 : res e2 o1 with
  | none => rw [q1] at h3; exact h3.elim
  | some d1 =>
    cases q2 : res e2 o2 with
    | none => rw [q1, q2] at h3; exact h3.elim
    | some d2 =>
      rw [q1, q2] at h3
      simp only [Option.bind_some] at h3
      cases q3 : g d1 d2 with
      | none => rw [q3] at h3; exact h3.elim
      | some z =>
        rw [q3] at h3
        refine h2 π e2 σ w2 v1 v2 d1 d2 z _ m2 (res_sound m2 (k1.step f2) q1) (res_sound m2 k2 q2) q3 fun v w' m' f' k' => ?_
        split at h3
        · rename_i z2; cases z2
          obtain ⟨_, kk, _⟩ := k'
          cases kk.1
          refine ⟨true, rfl, ?_⟩
          rw [if_pos rfl]
          refine s3 π e2 σ w' _ m' ((h3.from f').bnd fun o3 e3 v3 w3 m3 f3 k3 h4 => ?_)
          have h5 := h4.from f3
          cases q5 : res e3 o2 with
          | none => rw [q5] at h5; exact h5.elim
          | some d5 =>
            cases q6 : res e3 o3 with
            | none => rw [q5, q6] at h5; exact h5.elim
            | some d6 =>
              rw [q5, q6] at h5
              simp only [Option.bind_some] at h5
              cases q7 : g' d5 d6 with
              | none => rw [q7] at h5; exact h5.elim
              | some z7 =>
                rw [q7] at h5
                exact h2' π e3 σ w3 v2 v3 d5 d6 z7 Q m3 (res_sound m3 ((k2.step f').step f3) q5) (res_sound m3 k3 q6) q7 fun v w5 m5 f5 k5 => h5 v w5 m5 f5 (k5.base (((f1.trans f2).trans f').trans f3))
        · rename_i z2; cases z2
          obtain ⟨_, kk, _⟩ := k'
          cases kk.1
          refine ⟨false, rfl, ?_⟩
          rw [if_neg Bool.false_ne_true]
          exact h3 _ w' m' f' (.fr (.bl _))
        · exact h3.elim
theorem vt_chain {op op' : CmpOp} {g g' : PyData → PyData → Option B} (ho : OpV X ρ (compareOp op) g) (ho' : OpV X ρ (compareOp op') g') (ha : VE X ρ W a fa) (hb : VE X ρ W b fb) (hc : VE X ρ W c fc) (hm : lastMarks [op, op'] [b, c] = false := by with_unfolding_all rfl) :
    VT X ρ W (.Compare a [op, op'] [b, c] pos) (fTest (fChain g g' fa fb fc)) := by
  obtain ⟨r, r', t1, t2, t3, h1, h1', p1, p2, p3, s⟩ := se_chain ho ho' ha hb hc
  exact ⟨_, pt_chain h1 h1' p1 p2 p3 hm, st_test s⟩
theorem v_add : OpV X ρ (binaryOp .Add) oAdd := by
  refine ⟨_, OpR.or op_add (OpR.or op_add_str (OpR.or op_cat op_catA)), fun π e σ w x y dx dy z Q m hx hy hz k => ?_⟩
  unfold oAdd at hz
  split at hz
  · cases hz; cases hx; cases hy
    exact .inl ⟨_, _, rfl, rfl, sc_end m k (.int _)⟩
  · split at hz
    · rename_i hb
      cases hz; cases hx; cases hy
      exact .inr (.inl ⟨_, _, rfl, rfl, le_big hb, sc_end m k (.str _)⟩)
    · cases hz
  · split at hz
    · rename_i hb
      cases hz
      obtain ⟨p, xs, rfl, hp, rp⟩ := hx
      obtain ⟨q, ys, rfl, hq, rq⟩ := hy
      have l1 := rp.length
      have l2 := rq.length
      refine .inr (.inr (.inl ⟨p, q, xs, ys, rfl, rfl, hp, hq, by rw [l1, l2]; exact le_big hb, fun r hr => ?_⟩))
      obtain ⟨m2, f2, k2⟩ := mk_lst m hr (rp.append rq)
      exact k _ _ m2 f2 k2
    · cases hz
  · split at hz
    · rename_i hb
      cases hz
      obtain ⟨p, xs, rfl, hp, rp⟩ := hx
      obtain ⟨q, ys, rfl, hq, rq⟩ := hy
      have l1 := rp.length
      have l2 := rq.length
      have e1 : w.H p = some (.tup xs) := m.sub _ _ hp
      have e2 : w.H q = some (.tup ys) := m.sub _ _ hq
      refine .inr (.inr (.inr ⟨p, q, xs, ys, rfl, rfl, .of e1, .of e2, by rw [l1, l2]; exact le_big hb, fun e => ?_, fun e e' => ?_, fun e e' r hr => ?_⟩))
      · subst e
        cases rp
        exact k _ w m (.refl w) (.fr (.tup hq rq))
      · subst e'
        cases rq
        rw [List.append_nil] at k
        exact k _ w m (.refl w) (.fr (.tup hp rp))
      · obtain ⟨w2, m2, f2, eH, k2⟩ := mk_tup m hr (rp.append rq)
        rw [← eH]
        exact k _ _ m2 f2 k2
    · cases hz
  · cases hz
theorem flat_rep {K : PySem.W.Frag} {G : Hp} {vs : List V} {ds : List PyData} (h : RpAll K G vs ds) : ∀ n : Nat, RpAll K G (List.replicate n vs).flatten (List.replicate n ds).flatten
  | 0 => .nil
  | n + 1 => by
    rw [List.replicate_succ, List.replicate_succ, List.flatten_cons, List.flatten_cons]
    exact h.append (flat_rep h n)
theorem cMul_ok {i j : Int} (h : cMul i j = true) : (-(2 ^ 64) < i ∧ i < 2 ^ 64) ∨ (-(2 ^ 64) < j ∧ j < 2 ^ 64) := by
  unfold cMul at h
  rw [Bool.or_eq_true, decide_eq_true_eq, decide_eq_true_eq] at h
  rcases h with h | h
  · exact .inl ⟨by omega, by omega⟩
  · exact .inr ⟨by omega, by omega⟩
theorem cFdiv_ok {i j : Int} (h : cFdiv i j = true) : 0 < j ∧ j < 2 ^ 200 := by
  unfold cFdiv at h
  rw [Bool.and_eq_true, decide_eq_true_eq, decide_eq_true_eq] at h
  exact ⟨h.1, by omega⟩
theorem v_mul : OpV X ρ (binaryOp .Mult) oMul := by
  refine ⟨_, OpR.or op_mul op_rep, fun π e σ w x y dx dy z Q m hx hy hz k => ?_⟩
  unfold oMul at hz
  split at hz
  · split at hz
    · rename_i i j hc
      cases hz; cases hx; cases hy
      exact .inl ⟨_, _, rfl, rfl, cMul_ok hc, sc_end m k (.int _)⟩
    · cases hz
  · split at hz
    · rename_i hb
      cases hz; cases hy
      obtain ⟨p, xs, rfl, hp, rp⟩ := hx
      have l1 := rp.length
      refine .inr ⟨p, _, xs, rfl, rfl, hp, by omega, by omega, by rw [l1]; exact le_big hb.2, fun r hr => ?_⟩
      obtain ⟨m2, f2, k2⟩ := mk_lst m hr (flat_rep rp _)
      exact k _ _ m2 f2 k2
    · cases hz
  · cases hz
theorem v_fdiv : OpV X ρ (binaryOp .FloorDiv) (opI cFdiv fun i j => i / j) := by
  refine opv_I (op_fdivW) fun i j h => ?_
  have h' : 0 < j ∧ j < 2 ^ 200 := cFdiv_ok h
  exact wide_div (b := 200) h'.1 (by omega) (by decide) (by decide)
theorem Rq.dp {K : PySem.W.Frag} {G H : Hp} {v : V} {d : PyData} (h : Rq K G H v d) (s : Same G H) (c : SeqAt.shaped d = true) : Dp K H v d := (h.rp s).dp d (SeqAt.canLay_of_shaped c)
/-- a list beside the empty list: its length tells -/
def rEN (f : Bool → Bool) : R2 := fun x y H Q => ∃ a b xs, x = V.ref a ∧ y = V.ref b ∧ H a = some (.lst xs) ∧ H b = some (.lst []) ∧ Q (.bl (f xs.isEmpty)) H
theorem op_eqN (hu : X.A.units < cLine) : OpR X (compareOp .Eq) (rEN id) := by
  intro pins s σ H x y v u Q I rx ry h
  obtain ⟨a, b, xs, rfl, rfl, ha, hb, q⟩ := h
  cases (show v = Value.ref a from rx)
  cases (show u = Value.ref b from ry)
  obtain ⟨us, r1, p1, _⟩ := I.list (.inl (.inl ha))
  obtain ⟨ws, r2, p2, _⟩ := I.list (.inl (.inl hb))
  have n1 := r1.length
  have n2 := r2.length
  cases xs with
  | nil =>
    cases us with
    | cons _ _ => cases n1
    | nil =>
      cases ws with
      | cons _ _ => cases n2
      | nil => exact SeqAt.RcAt.lists (e := fun _ => true) p1.isList p2.isList rfl hu (fun j h1 => absurd h1 (Nat.not_lt_zero _)) X.prog X.w _ _ ⟨.bl true, H, I, rfl, q⟩
  | cons x xs =>
    cases us with
    | nil => cases n1
    | cons u us =>
      cases ws with
      | cons _ _ => cases n2
      | nil => exact SeqAt.RcAt.lists_lengths p1.isList p2.isList (by simp) hu X.prog X.w _ _ ⟨.bl false, H, I, rfl, q⟩
theorem op_neN (hu : X.A.units < cLine) : OpR X (compareOp .NotEq) (rEN not) := by
  intro pins s σ H x y v u Q I rx ry h
  obtain ⟨a, b, xs, rfl, rfl, ha, hb, q⟩ := h
  cases (show v = Value.ref a from rx)
  cases (show u = Value.ref b from ry)
  obtain ⟨us, r1, p1, _⟩ := I.list (.inl (.inl ha))
  obtain ⟨ws, r2, p2, _⟩ := I.list (.inl (.inl hb))
  have n1 := r1.length
  have n2 := r2.length
  cases xs with
  | nil =>
    cases us with
    | cons _ _ => cases n1
    | nil =>
      cases ws with
      | cons _ _ => cases n2
      | nil => exact SeqAt.RcNeAt.lists (e := fun _ => true) p1.isList p2.isList rfl hu (fun j h1 => absurd h1 (Nat.not_lt_zero _)) X.prog X.w _ _ ⟨.bl false, H, I, rfl, q⟩
  | cons x xs =>
    cases us with
    | nil => cases n1
    | cons u us =>
      cases ws with
      | cons _ _ => cases n2
      | nil => exact SeqAt.RcNeAt.lists_lengths p1.isList p2.isList (by simp) hu X.prog X.w _ _ ⟨.bl true, H, I, rfl, q⟩
def rES (f : Bool → Bool) : R2 := fun x y H Q => ∃ a b, x = V.str a ∧ y = V.str b ∧ Q (.bl (f (a == b))) H
theorem op_eqS : OpR X (compareOp .Eq) (rES id) := by
  intro pins s σ H x y v u Q I rx ry h
  obtain ⟨a, b, rfl, rfl, q⟩ := h
  obtain ⟨t, rfl⟩ := rx
  obtain ⟨t2, rfl⟩ := ry
  exact SeqAt.RcAt.str_str a t b t2 X.prog X.w _ _ ⟨.bl (a == b), H, I, rfl, q⟩
theorem op_neS : OpR X (compareOp .NotEq) (rES not) := by
  intro pins s σ H x y v u Q I rx ry h
  obtain ⟨a, b, rfl, rfl, q⟩ := h
  obtain ⟨t, rfl⟩ := rx
  obtain ⟨t2, rfl⟩ := ry
  exact SeqAt.RcNeAt.str_str a t b t2 X.prog X.w _ _ ⟨.bl (!(a == b)), H, I, rfl, q⟩
theorem isE_rq {K : PySem.W.Frag} {G H : Hp} {x y : V} {dx dy : PyData} {r : Bool} (h : isE dx dy = some r) (hx : Rq K G H x dx) (hy : Rq K G H y dy) : (∃ a b xs, x = V.ref a ∧ y = V.ref b ∧ H a = some (.lst xs) ∧ H b = some (.lst []) ∧ r = xs.isEmpty) ∨ ∃ a b, x = V.str a ∧ y = V.str b ∧ r = (a == b) := by
  unfold isE at h
  split at h
  · cases h
    obtain ⟨a, xs, rfl, ha, ra⟩ := hx
    obtain ⟨b, ys, rfl, hb, rb⟩ := hy
    cases rb
    refine .inl ⟨a, b, xs, rfl, rfl, ha, hb, ?_⟩
    cases ra <;> rfl
  · cases h
    cases hx
    cases hy
    exact .inr ⟨_, _, rfl, rfl, rfl⟩
  · cases h
theorem v_eq (hu : X.A.units + 64 < cLine) : OpV X ρ (compareOp .Eq) oEq := by
  refine ⟨_, OpR.or (op_eqD hu) (OpR.or (op_eqN (Nat.lt_of_le_of_lt (Nat.le_add_right _ _) hu)) op_eqS), fun π e σ w x y dx dy z Q m hx hy hz k => ?_⟩
  unfold oEq at hz
  split at hz
  · rename_i hc
    cases hz
    exact .inl ⟨dx, dy, hx.dp m.sub hc.1, hy.dp m.sub hc.2, hc.1, hc.2, sc_end m k (.bl _)⟩
  · cases hb : isE dx dy with
    | none => rw [hb] at hz; cases hz
    | some r =>
      rw [hb] at hz
      cases hz
      rcases isE_rq hb hx hy with ⟨a, b, xs, e1, e2, ha, hb2, rfl⟩ | ⟨a, b, e1, e2, rfl⟩
      · exact .inr (.inl ⟨a, b, xs, e1, e2, ha, hb2, sc_end m k (.bl _)⟩)
      · exact .inr (.inr ⟨a, b, e1, e2, sc_end m k (.bl _)⟩)
theorem v_ne (hu : X.A.units + 64 < cLine) : OpV X ρ (compareOp .NotEq) oNe := by
  refine ⟨_, OpR.or (op_neD hu) (OpR.or (op_neN (Nat.lt_of_le_of_lt (Nat.le_add_right _ _) hu)) op_neS), fun π e σ w x y dx dy z Q m hx hy hz k => ?_⟩
  unfold oNe at hz
  split at hz
  · rename_i hc
    cases hz
    exact .inl ⟨dx, dy, hx.dp m.sub hc.1, hy.dp m.sub hc.2, hc.1, hc.2, sc_end m k (.bl _)⟩
  · cases hb : isE dx dy with
    | none => rw [hb] at hz; cases hz
    | some r =>
      rw [hb] at hz
      cases hz
      rcases isE_rq hb hx hy with ⟨a, b, xs, e1, e2, ha, hb2, rfl⟩ | ⟨a, b, e1, e2, rfl⟩
      · exact .inr (.inl ⟨a, b, xs, e1, e2, ha, hb2, sc_end m k (.bl _)⟩)
      · exact .inr (.inr ⟨a, b, e1, e2, sc_end m k (.bl _)⟩)
theorem rp_at {K : PySem.W.Frag} {G : Hp} {xs : List V} {ds : List PyData} {i : Int} {d : PyData} (r : RpAll K G xs ds) (h : atI ds i = some d) : ∃ v, atI xs i = some v ∧ Rp K G v d := by
  unfold atI at h ⊢
  rw [r.length]
  cases q : ixN ds.length i with
  | none => rw [q] at h; cases h
  | some j =>
    rw [q] at h
    exact r.get h
theorem ve_ix (ha : VE X ρ W a fa) (hb : VE X ρ W b fb) (hs : PlainIx b := by exact fun _ _ => rfl) : VE X ρ W (.Subscript a b pos) (fBin oIx fa fb) := by
  obtain ⟨t, p, s⟩ := ha
  obtain ⟨t2, p2, s2⟩ := hb
  refine ⟨_, pe_ix ix_seq p p2 hs, se_bin (fun π e σ w x y dx dy z Q m hx hy hz k => ?_) s s2⟩
  unfold oIx at hz
  split at hz
  · cases hy
    obtain ⟨q, xs, rfl, hq, rq⟩ := hx
    rename_i ds i
    cases hd : atI ds i with
    | none => rw [hd] at hz; cases hz
    | some d =>
      rw [hd] at hz
      cases hz
      obtain ⟨v, h1, h2⟩ := rp_at rq hd
      exact .inl ⟨q, xs, i, v, rfl, rfl, .of hq, h1, sc_end m k h2⟩
  · cases hy
    obtain ⟨q, xs, rfl, hq, rq⟩ := hx
    rename_i ds i
    cases hd : atI ds i with
    | none => rw [hd] at hz; cases hz
    | some d =>
      rw [hd] at hz
      cases hz
      obtain ⟨v, h1, h2⟩ := rp_at rq hd
      exact .inr (.inl ⟨q, xs, i, v, rfl, rfl, .of (m.sub _ _ hq), h1, sc_end m k h2⟩)
  · split at hz
    · rename_i zz i hb
      cases hx; cases hy
      cases hd : atI zz.cps.toList i with
      | none => rw [hd] at hz; cases hz
      | some d =>
        rw [hd] at hz
        cases hz
        exact .inr (.inr ⟨zz, i, d, rfl, rfl, le_big hb, hd, sc_end m k (.str _)⟩)
    · cases hz
  · cases hz
def VO (X : Cx) (ρ : Nat → Res) (W : WX) (e : Option Expr) (f : FO) : Prop := ∃ t, PO X e t ∧ ∀ π env σ w Q, Mt (cc X ρ) π env σ w → Post (cc X ρ) W π σ w (f env) (fun _ b b' => b = b') Q → t σ w.H Q
theorem vo_no : VO X ρ W none oNo := ⟨_, po_none, fun π e σ w Q m h => h none w m (.refl w) rfl⟩
theorem vo_some (ha : VE X ρ W a fa) : VO X ρ W (some a) (oSome fa) := by
  obtain ⟨t, p, s⟩ := ha
  refine ⟨_, po_some p, fun π e σ w Q m h => ?_⟩
  refine s π e σ w _ m (h.bnd fun o1 e1 v1 w1 m1 f1 k1 h1 => ?_)
  cases q1 : res e1 o1 with
  | none => rw [q1] at h1; exact h1.elim
  | some d1 =>
    rw [q1] at h1
    have r := res_sound m1 k1 q1
    split at h1
    · rename_i bb z; cases z; cases r
      exact ⟨_, rfl, h1 _ w1 m1 f1 rfl⟩
    · exact h1.elim
theorem ve_sl {lo hi : Option Expr} {fl fh : FO} {p2 : Pos} (ha : VE X ρ W a fa) (hl : VO X ρ W lo fl) (hh : VO X ρ W hi fh) : VE X ρ W (.Subscript a (.Slice lo hi none p2) pos) (fSl fa fl fh) := by
  obtain ⟨t, p, s⟩ := ha
  obtain ⟨t1, p1, s1⟩ := hl
  obtain ⟨t2, p2', s2⟩ := hh
  refine ⟨_, pe_slice (SlR.or sl_list sl_str) p p1 p2', fun π e σ w Q m h => ?_⟩
  refine s π e σ w _ m (h.bnd fun o1 e1 v1 w1 m1 f1 k1 h1 => ?_)
  refine s1 π e1 σ w1 _ m1 ((h1.from f1).bnd fun l e2 l' w2 m2 f2 k2 h2 => ?_)
  subst k2
  refine s2 π e2 σ w2 _ m2 ((h2.from f2).bnd fun u e3 u' w3 m3 f3 k3 h3 => ?_)
  subst k3
  have h4 := h3.from f3
  cases q1 : res e3 o1 with
  | none => rw [q1] at h4; exact h4.elim
  | some d1 =>
    rw [q1] at h4
    simp only [Option.bind_some] at h4
    have r := res_sound m3 ((k1.step f2).step f3) q1
    cases q2 : oSl d1 l u with
    | none => rw [q2] at h4; exact h4.elim
    | some z =>
      rw [q2] at h4
      cases d1 with
      | list ds =>
        cases q2
        obtain ⟨q, xs, rfl, hq, rq⟩ := r
        refine .inl ⟨q, xs, rfl, .of hq, fun p hp => ?_⟩
        have rz : RpAll X.K w3.G (cutV xs l u) (cutD ds l u) := by
          unfold cutV cutD
          rw [rq.length]
          exact (rq.drop _).take _
        obtain ⟨m5, f5, k5⟩ := mk_lst m3 hp rz
        exact h4 _ _ m5 f5 (k5.base ((f1.trans f2).trans f3))
      | str zz =>
        have q2' : (if zz.length ≤ big then some (B.fr (.str (cutS zz l u))) else none) = some z := q2
        split at q2'
        · rename_i hb
          cases q2'; cases r
          exact .inr ⟨_, rfl, le_big hb, h4 _ w3 m3 (.refl _) (.fr (.str _))⟩
        · cases q2'
      | none => cases q2
      | bool i => cases q2
      | int i => cases q2
      | tuple i => cases q2
      | dict i => cases q2
theorem ve_rev {p1 p2 p3 : Pos} {kk} (ha : VE X ρ W a fa) : VE X ρ W (.Subscript a (.Slice none none (some (.UnaryOp .USub (.Constant (.int 1) kk p1) p2)) p3) pos) (fUn oRev fa) := by
  obtain ⟨t, p, s⟩ := ha
  refine ⟨_, pe_revL p, se_un (r := fun x H Q => ∃ a xs, x = .ref a ∧ SqL X.K H a xs ∧ ∀ p, H p = none → Q (.ref p) (upd H p (.lst xs.reverse))) (fun π e σ w x dx z Q m hx hz k => ?_) s⟩
  unfold oRev at hz
  split at hz
  · cases hz
    obtain ⟨q, xs, rfl, hq, rq⟩ := hx
    refine ⟨q, xs, rfl, .of hq, fun p hp => ?_⟩
    obtain ⟨m5, f5, k5⟩ := mk_lst m hp rq.reverse
    exact k _ _ m5 f5 k5
  · cases hz
end
end VL
set_option maxRecDepth 100000
namespace VL
open PySem L2
section
variable {X : Cx} {ρ : Nat → Res} {W : WX} {a b c : Expr} {es : List Expr} {pos p : Pos} {fa fb fc : FE} {ta tb tc : FT} {fd : FD} {as_ : FA}
theorem va_nil : VA X ρ W [] aNil := ⟨_, pa_nil, fun π e σ w Q m h => h [] w m (.refl w) .nil⟩
theorem paired_base {C : Cc} {σ : St} {w w1 w' : WS} (f : Frm w w1) : ∀ {os : List O} {vs : List V}, Paired (OOk C σ w1 w') os vs → Paired (OOk C σ w w') os vs
  | _, _, .nil => .nil
  | _, _, .cons h t => .cons (h.base f) (paired_base f t)
theorem va_cons (ha : VE X ρ W a fa) (hr : VA X ρ W es as_) (hs : starEach (a :: es) X.env = (false, eval a X.env) :: starEach es X.env := by rfl) : VA X ρ W (a :: es) (aCons fa as_) := by
  obtain ⟨t, p, s⟩ := ha
  obtain ⟨t2, p2, s2⟩ := hr
  refine ⟨_, pa_cons p p2 hs, fun π e σ w Q m h => ?_⟩
  refine s π e σ w _ m (h.bnd fun o1 e1 v1 w1 m1 f1 k1 h1 => ?_)
  refine s2 π e1 σ w1 _ m1 ((h1.from f1).bnd fun os e3 vs w3 m3 f3 k3 h3 => ?_)
  exact h3.from f3 (v1 :: vs) w3 m3 (.refl _) (.cons (k1.step f3) (paired_base f1 k3))
/-- all read -/
inductive RqAll (K : PySem.W.Frag) (G H : Hp) : List V → List PyData → Prop
  | nil : RqAll K G H [] []
  | cons {v vs d ds} : Rq K G H v d → RqAll K G H vs ds → RqAll K G H (v :: vs) (d :: ds)
theorem resAll_sound {C : Cc} {π : List (Nat × V)} {e : Env} {σ : St} {w0 w : WS} (m : Mt C π e σ w) : ∀ {os : List O} {vs : List V} {ds : List PyData}, Paired (OOk C σ w0 w) os vs → resAll e os = some ds → RqAll C.K w.G w.H vs ds
  | _, _, ds, .nil, h => by cases h; exact .nil
  | o :: os, v :: vs, ds, .cons h t, hr => by
    unfold resAll at hr
    cases q : res e o with
    | none => rw [q] at hr; cases hr
    | some d =>
      rw [q] at hr
      cases q2 : resAll e os with
      | none => rw [q2] at hr; cases hr
      | some es =>
        rw [q2] at hr
        cases hr
        exact .cons (res_sound m h q) (resAll_sound m t q2)
def CallV (X : Cx) (ρ : Nat → Res) (v : Value) (g : List PyData → Option B) : Prop := ∃ r, CallR X v r ∧
  ∀ π e σ w xs ds z Q, Mt (cc X ρ) π e σ w → RqAll X.K w.G w.H xs ds → g ds = some z → (∀ v w', Mt (cc X ρ) π e σ w' → Frm w w' → OOk (cc X ρ) σ w w' (.b z) v → Q v w'.H) → r xs w.H Q
theorem se_cb {C : Cc} {r : List V → Hp → VK → Prop} {g : List PyData → Option B} {ta : TA} (hr : ∀ π e σ w xs ds z Q, Mt C π e σ w → RqAll C.K w.G w.H xs ds → g ds = some z → (∀ v w', Mt C π e σ w' → Frm w w' → OOk C σ w w' (.b z) v → Q v w'.H) → r xs w.H Q)
    (ha : SA C W ta as_) : SE C W (tCB r ta) (fCB g as_) := fun π e σ w Q m h => by
  refine ha π e σ w _ m (h.bnd fun os e1 vs w1 m1 f1 k1 h1 => ?_)
  have h3 := h1.from f1
  cases q1 : resAll e1 os with
  | none => rw [q1] at h3; exact h3.elim
  | some d1 =>
    rw [q1] at h3
    simp only [Option.bind_some] at h3
    cases q3 : g d1 with
    | none => rw [q3] at h3; exact h3.elim
    | some z =>
      rw [q3] at h3
      exact hr π e1 σ w1 vs d1 z Q m1 (resAll_sound m1 k1 q1) q3 fun v w' m' f' k' => h3 v w' m' f' (k'.base f1)
theorem ve_cb {id : String} {x : Str} {g : List PyData → Option B} (hc : CallV X ρ (.builtin id) g) (hm : X.mg x = none) (hv : bootBuiltins x = some (.builtin id)) (ha : VA X ρ W (a :: es) as_) (hg : Gl X x := by rfl) (hn : x ≠ "__name__" := by decide) (hdb : (x == ("__debug__" : Str)) = false := by decide)
    (he : starEach (a :: es) X.env = (false, eval a X.env) :: starEach es X.env := by rfl) (hpl : (backTo pos (starEach es X.env)).any (·.1) = false := by rfl) : VE X ρ W (.Call (.Name x p) (a :: es) [] pos) (fCB g as_) := by
  obtain ⟨r, h1, h2⟩ := hc
  obtain ⟨t, pa, s⟩ := ha
  exact ⟨_, pe_callB h1 hg hm hv pa hn hdb he hpl, se_cb h2 s⟩
theorem ve_ct {T : String} {x : Str} {g : List PyData → Option B} (hc : CallV X ρ (.type T) g) (hm : X.mg x = none) (hv : bootBuiltins x = some (.type T)) (ha : VA X ρ W (a :: es) as_) (hg : Gl X x := by rfl) (hn : x ≠ "__name__" := by decide) (hdb : (x == ("__debug__" : Str)) = false := by decide)
    (he : starEach (a :: es) X.env = (false, eval a X.env) :: starEach es X.env := by rfl) (hpl : (backTo pos (starEach es X.env)).any (·.1) = false := by rfl) : VE X ρ W (.Call (.Name x p) (a :: es) [] pos) (fCB g as_) := by
  obtain ⟨r, h1, h2⟩ := hc
  obtain ⟨t, pa, s⟩ := ha
  exact ⟨_, pe_callTy h1 hg hm hv pa hn hdb he hpl, se_cb h2 s⟩
theorem ints_of {K : PySem.W.Frag} {G : Hp} : ∀ {ds : List PyData} {ns : List Int} {xs : List V}, asInts ds = some ns → RpAll K G xs ds → xs = ns.map V.int ∧ ds = ns.map .int
  | [], ns, xs, h, r => by cases h; cases r; exact ⟨rfl, rfl⟩
  | .int i :: ds, ns, xs, h, r => by
    unfold asInts at h
    cases q : asInts ds with
    | none => rw [q] at h; cases h
    | some ms =>
      rw [q] at h
      cases h
      cases r with
      | cons r1 r2 =>
        cases r1
        obtain ⟨e1, e2⟩ := ints_of q r2
        exact ⟨by rw [e1]; rfl, by rw [e2]; rfl⟩
  | .none :: ds, ns, xs, h, r => by cases h
  | .bool _ :: ds, ns, xs, h, r => by cases h
  | .str _ :: ds, ns, xs, h, r => by cases h
  | .list _ :: ds, ns, xs, h, r => by cases h
  | .tuple _ :: ds, ns, xs, h, r => by cases h
  | .dict _ :: ds, ns, xs, h, r => by cases h
theorem rp_ints {K : PySem.W.Frag} {G : Hp} : ∀ ns : List Int, RpAll K G (ns.map V.int) (ns.map .int)
  | [] => .nil
  | n :: ns => .cons (.int n) (rp_ints ns)
theorem fold_max_mem (x : Int) : ∀ xs : List Int, xs.foldl max x ∈ x :: xs ∧ ∀ y ∈ x :: xs, y ≤ xs.foldl max x := by
  intro xs
  induction xs generalizing x with
  | nil => exact ⟨by simp, fun y h => by simp at h; subst h; exact Int.le_refl _⟩
  | cons z xs ih =>
    obtain ⟨h1, h2⟩ := ih (max x z)
    show xs.foldl max (max x z) ∈ _ ∧ _
    refine ⟨?_, fun y hy => ?_⟩
    · rcases List.mem_cons.mp h1 with e | e
      · rw [e]
        by_cases hz : z ≤ x
        · rw [Int.max_eq_left hz]; simp
        · rw [Int.max_eq_right (by omega)]; simp
      · exact List.mem_cons_of_mem _ (List.mem_cons_of_mem _ e)
    · have hm := h2 (max x z) (by simp)
      rcases List.mem_cons.mp hy with e | hy
      · subst e; exact Int.le_trans (Int.le_max_left _ _) hm
      · rcases List.mem_cons.mp hy with e | hy
        · subst e; exact Int.le_trans (Int.le_max_right _ _) hm
        · exact h2 y (List.mem_cons_of_mem _ hy)
theorem fold_min_mem (x : Int) : ∀ xs : List Int, xs.foldl min x ∈ x :: xs ∧ ∀ y ∈ x :: xs, xs.foldl min x ≤ y := by
  intro xs
  induction xs generalizing x with
  | nil => exact ⟨by simp, fun y h => by simp at h; subst h; exact Int.le_refl _⟩
  | cons z xs ih =>
    obtain ⟨h1, h2⟩ := ih (min x z)
    show xs.foldl min (min x z) ∈ _ ∧ _
    refine ⟨?_, fun y hy => ?_⟩
    · rcases List.mem_cons.mp h1 with e | e
      · rw [e]
        by_cases hz : x ≤ z
        · rw [Int.min_eq_left hz]; simp
        · rw [Int.min_eq_right (by omega)]; simp
      · exact List.mem_cons_of_mem _ (List.mem_cons_of_mem _ e)
    · have hm := h2 (min x z) (by simp)
      rcases List.mem_cons.mp hy with e | hy
      · subst e; exact Int.le_trans hm (Int.min_le_left _ _)
      · rcases List.mem_cons.mp hy with e | hy
        · subst e; exact Int.le_trans hm (Int.min_le_right _ _)
        · exact h2 y (List.mem_cons_of_mem _ hy)
theorem maxI_uniq {ns : List Int} {m : Int} (hne : ns ≠ []) (h1 : m ∈ ns) (h2 : ∀ y, y ∈ ns → y ≤ m) : m = maxI ns := by
  cases ns with
  | nil => exact absurd rfl hne
  | cons x xs =>
    obtain ⟨k1, k2⟩ := fold_max_mem x xs
    exact Int.le_antisymm (k2 m h1) (h2 _ k1)
theorem minI_uniq {ns : List Int} {m : Int} (hne : ns ≠ []) (h1 : m ∈ ns) (h2 : ∀ y, y ∈ ns → m ≤ y) : m = minI ns := by
  cases ns with
  | nil => exact absurd rfl hne
  | cons x xs =>
    obtain ⟨k1, k2⟩ := fold_min_mem x xs
    exact Int.le_antisymm (h2 _ k1) (k2 m h1)
theorem v_len : CallV X ρ (.builtin "len") gLen := by
  refine ⟨_, CallR.or call_len_seq (CallR.or call_len_str call_lenD), fun π e σ w xs ds z Q m hx hz k => ?_⟩
  unfold gLen at hz
  split at hz
  · cases hz
    cases hx with
    | cons r t =>
      cases t
      obtain ⟨q, ys, rfl, hq, rq⟩ := r
      refine .inl ⟨q, ys, rfl, .inl (.of hq), ?_⟩
      rw [rq.length]
      exact sc_end m k (.int _)
  · cases hz
    cases hx with
    | cons r t =>
      cases t
      obtain ⟨q, ys, rfl, hq, rq⟩ := r
      refine .inl ⟨q, ys, rfl, .inr (.of (m.sub _ _ hq)), ?_⟩
      rw [rq.length]
      exact sc_end m k (.int _)
  · split at hz
    · rename_i hb
      cases hz
      cases hx with
      | cons r t =>
        cases t
        cases r
        exact .inr (.inl ⟨_, rfl, le_big hb, sc_end m k (.int _)⟩)
    · cases hz
  · cases hz
    cases hx with
    | cons r t =>
      cases t
      obtain ⟨q, ys, rfl, hq, e1, rq⟩ := r
      refine .inr (.inr ⟨q, ys, rfl, hq, ?_⟩)
      have e2 := congrArg List.length e1
      rw [List.length_map, List.length_map] at e2
      rw [e2]
      exact sc_end m k (.int _)
  · cases hz
theorem v_max (hc : X.calm = true) : CallV X ρ (.builtin "max") gMax := by
  refine ⟨_, CallR.or (call_max2 hc) (cr_max hc), fun π e σ w xs ds z Q m hx hz k => ?_⟩
  unfold gMax at hz
  split at hz
  · cases hz
    cases hx with
    | cons r t =>
      cases t with
      | cons r2 t =>
        cases t
        cases r
        cases r2
        exact .inl ⟨_, _, rfl, sc_end m k (.int _)⟩
  · rename_i d ds
    cases q : asInts (d :: ds) with
    | none => rw [q] at hz; cases hz
    | some ns =>
      rw [q] at hz
      cases hz
      cases hx with
      | cons r t =>
        cases t
        obtain ⟨p, ys, rfl, hp, rp⟩ := r
        obtain ⟨e1, e2⟩ := ints_of q rp
        subst e1
        have hne : ns ≠ [] := by
          rintro rfl
          cases e2
        refine .inr ⟨p, ns, rfl, .of hp, List.length_pos_iff.mpr hne, fun mm h1 h2 => ?_⟩
        rw [maxI_uniq hne h1 h2]
        exact sc_end m k (.int _)
  · cases hz
theorem v_min (hc : X.calm = true) : CallV X ρ (.builtin "min") gMin := by
  refine ⟨_, CallR.or (call_min2 hc) (cr_min hc), fun π e σ w xs ds z Q m hx hz k => ?_⟩
  unfold gMin at hz
  split at hz
  · cases hz
    cases hx with
    | cons r t =>
      cases t with
      | cons r2 t =>
        cases t
        cases r
        cases r2
        exact .inl ⟨_, _, rfl, sc_end m k (.int _)⟩
  · rename_i d ds
    cases q : asInts (d :: ds) with
    | none => rw [q] at hz; cases hz
    | some ns =>
      rw [q] at hz
      cases hz
      cases hx with
      | cons r t =>
        cases t
        obtain ⟨p, ys, rfl, hp, rp⟩ := r
        obtain ⟨e1, e2⟩ := ints_of q rp
        subst e1
        have hne : ns ≠ [] := by
          rintro rfl
          cases e2
        refine .inr ⟨p, ns, rfl, .of hp, List.length_pos_iff.mpr hne, fun mm h1 h2 => ?_⟩
        rw [minI_uniq hne h1 h2]
        exact sc_end m k (.int _)
  · cases hz
theorem v_sum (hc : X.calm = true) : CallV X ρ (.builtin "sum") gSum := by
  refine ⟨_, cr_sum hc, fun π e σ w xs ds z Q m hx hz k => ?_⟩
  unfold gSum at hz
  split at hz
  · rename_i ds
    cases q : asInts ds with
    | none => rw [q] at hz; cases hz
    | some ns =>
      rw [q] at hz
      cases hz
      cases hx with
      | cons r t =>
        cases t
        obtain ⟨p, ys, rfl, hp, rp⟩ := r
        obtain ⟨e1, e2⟩ := ints_of q rp
        subst e1
        exact ⟨p, ns, rfl, .of hp, sc_end m k (.int _)⟩
  · cases hz
theorem v_int : CallV X ρ (.type "int") gInt := by
  refine ⟨_, call_int1, fun π e σ w xs ds z Q m hx hz k => ?_⟩
  unfold gInt at hz
  split at hz
  · cases hz
    cases hx with
    | cons r t =>
      cases t
      cases r
      exact .inl ⟨_, rfl, sc_end m k (.int _)⟩
  · cases hz
    cases hx with
    | cons r t =>
      cases t
      cases r
      exact .inr ⟨_, rfl, sc_end m k (.int _)⟩
  · cases hz
theorem v_list : CallV X ρ (.type "list") gList := by
  refine ⟨_, call_list_of, fun π e σ w xs ds z Q m hx hz k => ?_⟩
  unfold gList at hz
  split at hz
  · cases hz
    cases hx with
    | cons r t =>
      cases t
      obtain ⟨q, ys, rfl, hq, rq⟩ := r
      refine ⟨q, ys, rfl, .inl (.of hq), fun p hp => ?_⟩
      obtain ⟨m5, f5, k5⟩ := mk_lst m hp rq
      exact k _ _ m5 f5 k5
  · cases hz
    cases hx with
    | cons r t =>
      cases t
      obtain ⟨q, ys, rfl, hq, rq⟩ := r
      refine ⟨q, ys, rfl, .inr (.of (m.sub _ _ hq)), fun p hp => ?_⟩
      obtain ⟨m5, f5, k5⟩ := mk_lst m hp rq
      exact k _ _ m5 f5 k5
  · cases hz
theorem sorted_uniq {ns ms : List Int} (h1 : ms.Perm ns) (h2 : ms.Pairwise (· ≤ ·)) : ms = ns.mergeSort leI := by
  have t : ∀ a b c : Int, leI a b = true → leI b c = true → leI a c = true := fun a b c x y => by unfold leI at *; simp only [decide_eq_true_eq] at *; omega
  have tt : ∀ a b : Int, (leI a b || leI b a) = true := fun a b => by unfold leI; simp only [Bool.or_eq_true, decide_eq_true_eq]; omega
  have h3 := List.pairwise_mergeSort t tt ns
  have h4 := List.mergeSort_perm ns leI
  refine List.Perm.eq_of_pairwise (le := fun a b : Int => a ≤ b) (fun a b _ _ x y => Int.le_antisymm x y) h2 ?_ (h1.trans h4.symm)
  exact h3.imp fun {a b} h => by unfold leI at h; exact of_decide_eq_true h
theorem v_sorted : CallV X ρ (.builtin "sorted") gSorted := by
  refine ⟨_, cr_sortedI, fun π e σ w xs ds z Q m hx hz k => ?_⟩
  unfold gSorted at hz
  split at hz
  · rename_i ds
    cases q : asInts ds with
    | none => rw [q] at hz; cases hz
    | some ns =>
      rw [q] at hz
      cases hz
      cases hx with
      | cons r t =>
        cases t
        obtain ⟨p, ys, rfl, hp, rp⟩ := r
        obtain ⟨e1, e2⟩ := ints_of q rp
        subst e1
        refine ⟨p, ns, rfl, .of hp, fun ms r h1 h2 hr => ?_⟩
        rw [sorted_uniq h1 h2]
        obtain ⟨m5, f5, k5⟩ := mk_lst m hr (rp_ints _)
        exact k _ _ m5 f5 k5
  · cases hz
end
end VL
set_option maxRecDepth 100000
namespace VL
open PySem L2
section
variable {C : Cc} {π : List (Nat × V)} {e : Env} {σ : St} {w : WS}
theorem at_forget : ∀ {vs : List Nat} {e : Env} {i : Nat} {b : B}, at? (forget vs e) i = some b → at? e i = some b ∧ i ∉ vs
  | [], e, i, b, h => ⟨h, by simp⟩
  | v :: vs, e, i, b, h => by
    obtain ⟨h1, h2⟩ := at_forget (vs := vs) (e := e.set v none) h
    by_cases z : v = i
    · subst z
      unfold at? at h1
      by_cases hv : v < e.length
      · rw [List.getElem?_set_self hv] at h1; cases h1
      · rw [List.getElem?_eq_none (by simpa using hv)] at h1; cases h1
    · rw [at_set_ne z] at h1
      exact ⟨h1, by simp only [List.mem_cons, not_or]; exact ⟨fun q => z q.symm, h2⟩⟩
theorem forget_length : ∀ (vs : List Nat) (e : Env), (forget vs e).length = e.length
  | [], e => rfl
  | v :: vs, e => by
    show (forget vs (e.set v none)).length = e.length
    rw [forget_length vs, List.length_set]
/-- fewer names -/
theorem Mt.less {e' : Env} (m : Mt C π e σ w) (hl : e'.length = e.length) (h : ∀ i b, at? e' i = some b → at? e i = some b) : ∃ w', Mt C π e' σ w' ∧ Frm w w' ∧ w'.H = w.H ∧ w'.G = w.G ∧ ∀ i a, w'.fp i a → w.fp i a := by
  refine ⟨{ w with fp := fun i a => (at? e' i).isSome = true ∧ w.fp i a }, ⟨hl.trans m.len, m.sub, m.tg, fun i b q => ?_, fun i q a z => ?_, fun i j a x y => m.dis i j a x.2 y.2, m.pin⟩, ⟨Same.refl _, fun a o h1 n => ⟨h1, rfl, fun i z => n i z.2⟩, fun _ h => h⟩, rfl, rfl, fun i a z => z.2⟩
  · obtain ⟨v, h1, h2⟩ := m.bok i b (h i b q)
    refine ⟨v, h1, ?_⟩
    have e1 : (fun a => (at? e' i).isSome = true ∧ w.fp i a) = w.fp i := by
      funext a
      exact propext ⟨fun z => z.2, fun z => ⟨by rw [q]; rfl, z⟩⟩
    show BOk C w.G w.H b v (fun a => (at? e' i).isSome = true ∧ w.fp i a)
    rw [e1]
    exact h2
  · have z1 : (at? e' i).isSome = true := z.1
    rw [q] at z1
    cases z1
theorem Mt.forget {vs : List Nat} (m : Mt C π e σ w) : ∃ w', Mt C π (forget vs e) σ w' ∧ Frm w w' ∧ w'.H = w.H ∧ w'.G = w.G ∧ ∀ i a, w'.fp i a → w.fp i a :=
  m.less (forget_length vs e) fun _ _ h => (at_forget h).1
/-- a name bound -/
theorem Mt.bind {w0 : WS} {i : Nat} {b : B} {v : V} {fp : Addr → Prop} (m : Mt C π e σ w) (f : Frm w0 w) (hp : ∀ p ∈ π, p.1 ≠ i) (hb : BOk C w.G w.H b v fp) (hf : ∀ a, fp a → (w0.H a = none ∨ ∃ i, w0.fp i a) ∧ ∀ j, ¬ w.fp j a) :
    ∃ w', Mt C π (e.set i (some b)) (σ.set i (some v)) w' ∧ Frm w0 w' ∧ w'.H = w.H ∧ w'.G = w.G := by
  by_cases hi : i < e.length
  case neg =>
    rw [List.set_eq_of_length_le (by omega), List.set_eq_of_length_le (by rw [← m.len]; omega)]
    exact ⟨w, m, f, rfl, rfl⟩
  have hi' : i < σ.length := by rw [← m.len]; exact hi
  refine ⟨{ w with fp := fun j a => if j = i then fp a else w.fp j a }, ⟨by rw [List.length_set, List.length_set]; exact m.len, m.sub, m.tg, fun j c q => ?_, fun j q a z => ?_, fun j k a x y => ?_, fun p h => ?_⟩, ⟨f.g, fun a o h n => ?_, f.t⟩, rfl, rfl⟩
  · by_cases hj : i = j
    · subst hj
      rw [at_set_lt hi] at q
      cases q
      refine ⟨v, List.getElem?_set_self hi', ?_⟩
      have e1 : (fun a => if i = i then fp a else w.fp i a) = fp := by funext a; rw [if_pos rfl]
      show BOk C w.G w.H b v (fun a => if i = i then fp a else w.fp i a)
      rw [e1]
      exact hb
    · rw [at_set_ne hj] at q
      obtain ⟨u, h1, h2⟩ := m.bok j c q
      refine ⟨u, by rw [List.getElem?_set_ne hj]; exact h1, ?_⟩
      have e1 : (fun a => if j = i then fp a else w.fp j a) = w.fp j := by funext a; rw [if_neg (Ne.symm hj)]
      show BOk C w.G w.H c u (fun a => if j = i then fp a else w.fp j a)
      rw [e1]
      exact h2
  · by_cases hj : i = j
    · subst hj
      rw [at_set_lt hi] at q
      cases q
    · rw [at_set_ne hj] at q
      have z' : if j = i then fp a else w.fp j a := z
      rw [if_neg (Ne.symm hj)] at z'
      exact m.non j q a z'
  · have x' : if j = i then fp a else w.fp j a := x
    have y' : if k = i then fp a else w.fp k a := y
    by_cases hj : j = i
    · by_cases hk : k = i
      · rw [hj, hk]
      · rw [if_pos hj] at x'
        rw [if_neg hk] at y'
        exact absurd y' ((hf a x').2 k)
    · by_cases hk : k = i
      · rw [if_neg hj] at x'
        rw [if_pos hk] at y'
        exact absurd x' ((hf a y').2 j)
      · rw [if_neg hj] at x'
        rw [if_neg hk] at y'
        exact m.dis j k a x' y'
  · rw [List.getElem?_set_ne (fun z => hp p h z.symm)]
    exact m.pin p h
  · obtain ⟨h1, h2, h3⟩ := f.k a o h n
    refine ⟨h1, h2, fun j z => ?_⟩
    have z' : if j = i then fp a else w.fp j a := z
    by_cases hj : j = i
    · rw [if_pos hj] at z'
      rcases (hf a z').1 with q | ⟨k, q⟩
      · rw [h] at q; cases q
      · exact n k q
    · rw [if_neg hj] at z'
      exact h3 j z'
/-- a name's slot set where the old value was owned: its things are let go -/
theorem Mt.drop {i : Nat} (m : Mt C π e σ w) : ∃ w', Mt C π (e.set i none) σ w' ∧ Frm w w' ∧ w'.H = w.H ∧ w'.G = w.G ∧ ∀ j a, w'.fp j a → w.fp j a := by
  refine m.less (List.length_set) fun j b h => ?_
  by_cases hj : i = j
  · subst hj
    by_cases hi : i < e.length
    · rw [at_set_lt hi] at h; cases h
    · unfold at? at h
      rw [List.getElem?_eq_none (by simpa using hi)] at h; cases h
  · rw [at_set_ne hj] at h; exact h
end
section
variable {X : Cx} {ρ : Nat → Res} {W : WX} {pn : List Nat} {st : Stmt} {rest : List Stmt} {a b c : Expr} {es : List Expr} {pos p : Pos} {fa fb fc : FE} {ta tb tc : FT} {fd : FD} {as_ : FA} {f g : FS}
def VS (X : Cx) (ρ : Nat → Res) (W : WX) (pn : List Nat) (st : Stmt) (f : FS) : Prop := ∃ t, PS X st t ∧ SS (cc X ρ) W pn t f
def VSs (X : Cx) (ρ : Nat → Res) (W : WX) (pn : List Nat) (st : List Stmt) (f : FS) : Prop := ∃ t, PSs X st t ∧ SS (cc X ρ) W pn t f
theorem vss_nil : VSs X ρ W pn [] sNil := ⟨_, pss_nil, fun π e σ w D hp m h => h σ w m (.refl w)⟩
theorem vss_one (h : VS X ρ W pn st f) : VSs X ρ W pn [st] f := by
  obtain ⟨t, p, s⟩ := h
  exact ⟨t, pss_one p, s⟩
theorem vss_cons (h : VS X ρ W pn st f) (hr : VSs X ρ W pn rest g) : VSs X ρ W pn (st :: rest) (sSeq f g) := by
  obtain ⟨t, p, s⟩ := h
  obtain ⟨t2, p2, s2⟩ := hr
  refine ⟨_, pss_cons p p2, fun π e σ w D hp m h => ?_⟩
  refine s π e σ w _ hp m ?_
  unfold sSeq at h
  cases q : f e with
  | none => rw [q] at h; exact h.elim
  | some x =>
    rw [q] at h
    cases x with
    | nx e1 => exact fun σ' w' m' f' => s2 π e1 σ' w' D hp m' (h.from f')
    | rt b e1 => exact h
    | bk e1 => exact h
    | ct e1 => exact h
    | ex c e1 => exact h
theorem vs_expr (he : VE X ρ W a fa) (hs : swapsWith a none pos.line X.env = pure false := by rfl) : VS X ρ W pn (.Expr a pos) (sExpr fa) := by
  obtain ⟨t, p, s⟩ := he
  refine ⟨_, ps_expr p hs, fun π e σ w D hp m h => ?_⟩
  refine s π e σ w _ m (h.bnd fun o1 e1 v1 w1 m1 f1 k1 h1 => ?_)
  exact h1 σ w1 m1 f1
theorem vs_if {sa sb : List Stmt} (hc : VT X ρ W a ta) (ha : VSs X ρ W pn sa f) (hb : VSs X ρ W pn sb g) : VS X ρ W pn (.If a sa sb pos) (sIf ta f g) := by
  obtain ⟨t, p, s⟩ := hc
  obtain ⟨t2, p2, s2⟩ := ha
  obtain ⟨t3, p3, s3⟩ := hb
  refine ⟨_, ps_if p p2 p3, fun π e σ w D hp m h => ?_⟩
  refine s π e σ w _ m (h.bnd fun o1 e1 v1 w1 m1 f1 k1 h1 => ?_)
  subst k1
  cases o1 with
  | true => rw [if_pos rfl]; exact s2 π e1 σ w1 D hp m1 (h1.from f1)
  | false => rw [if_neg Bool.false_ne_true]; exact s3 π e1 σ w1 D hp m1 (h1.from f1)
theorem ss_asg {C : Cc} {t : TE} {i : Nat} (hi : i ∉ pn) (s : SE C W t fa) : SS C W pn (tAsg t (gName i)) (sAsg i fa) := fun π e σ w D hp m h => by
  refine s π e σ w _ m (h.bnd fun o1 e1 v1 w1 m1 f1 k1 h1 => ?_)
  cases q : fzB e1 o1 with
  | none => rw [q] at h1; exact h1.elim
  | some pr =>
    rw [q] at h1
    obtain ⟨w2, m2, f2, eH, hb⟩ := fzB_sound (e' := pr.2) m1 f1 k1 q
    obtain ⟨w3, m3, f3, eH3, _⟩ := m2.bind f2 (fun p h (z : p.1 = i) => hi (z ▸ hp p h)) hb (fun _ z => z.elim)
    rw [← eH, ← eH3]
    exact h1 _ w3 m3 f3
theorem ss_own {C : Cc} {t : TE} {i : Nat} (hi : i ∉ pn) (s : SE C W t fa) : SS C W pn (tAsg t (gName i)) (sOwn i fa) := fun π e σ w D hp m h => by
  refine s π e σ w _ m (h.bnd fun o1 e1 v1 w1 m1 f1 k1 h1 => ?_)
  cases o1 with
  | s j => exact h1.elim
  | b b =>
    obtain ⟨fp, hb, hf⟩ := k1
    obtain ⟨w3, m3, f3, eH3, _⟩ := m1.bind f1 (fun p h (z : p.1 = i) => hi (z ▸ hp p h)) hb hf
    rw [← eH3]
    exact h1 _ w3 m3 f3
theorem vs_asg (V0 : X.N.Nodup) (i : Nat) {x : Str} {pos' : Pos} (he : VE X ρ W a fa) (hi : X.N[i]? = some x := by rfl) (hp : i ∉ pn := by decide) (hx : Loc X.env.scope x := by first | exact Or.inl rfl | exact Or.inr rfl) (hs : swapsWith a (some (.Name x pos')) pos.line X.env = pure false := by rfl)
    (hf : X.fn x = true ∨ X.env.scope.names.lookup x = some .local := by first | exact .inl rfl | exact .inr rfl) : VS X ρ W pn (.Assign [.Name x pos'] a pos) (sAsg i fa) := by
  obtain ⟨t, p, s⟩ := he
  exact ⟨_, ps_set V0 hi hx p hs hf, ss_asg hp s⟩
theorem vs_own (V0 : X.N.Nodup) (i : Nat) {x : Str} {pos' : Pos} (he : VE X ρ W a fa) (hi : X.N[i]? = some x := by rfl) (hp : i ∉ pn := by decide) (hx : Loc X.env.scope x := by first | exact Or.inl rfl | exact Or.inr rfl) (hs : swapsWith a (some (.Name x pos')) pos.line X.env = pure false := by rfl)
    (hf : X.fn x = true ∨ X.env.scope.names.lookup x = some .local := by first | exact .inl rfl | exact .inr rfl) : VS X ρ W pn (.Assign [.Name x pos'] a pos) (sOwn i fa) := by
  obtain ⟨t, p, s⟩ := he
  exact ⟨_, ps_set V0 hi hx p hs hf, ss_own hp s⟩
theorem vs_retO (he : VE X ρ W a fa) : VS X ρ W pn (.Return (some a) pos) (sRetO fa) := by
  obtain ⟨t, p, s⟩ := he
  refine ⟨_, ps_ret p, fun π e σ w D hp m h => ?_⟩
  refine s π e σ w _ m (h.bnd fun o1 e1 v1 w1 m1 f1 k1 h1 => ?_)
  cases o1 with
  | b b => exact h1 v1 σ w1 m1 f1 k1
  | s i =>
    cases q : at? e1 i with
    | none => simp only [q, Option.bind_none] at h1; exact h1.elim
    | some b =>
      simp only [q, Option.bind_some] at h1
      have hv : σ[i]? = some (some v1) := k1
      obtain ⟨u, g1, g2⟩ := m1.bok i b q
      rw [hv] at g1
      cases g1
      obtain ⟨w2, m2, f2, eH, eG, hl⟩ := m1.drop (i := i)
      rw [← eH]
      refine h1 v1 σ w2 m2 (f1.trans f2) ⟨w1.fp i, by rw [eG, eH]; exact g2, fun a ha => ⟨f1.back (.inr ⟨i, ha⟩), fun j z => ?_⟩⟩
      have hj := m1.dis i j a ha (hl j a z)
      subst hj
      have hi : i < e1.length := by
        unfold at? at q
        cases q2 : e1[i]? with
        | none => rw [q2] at q; cases q
        | some y => exact (List.getElem?_eq_some_iff.mp q2).1
      exact m2.non i (at_set_lt hi) a z
def ItOk (C : Cc) (G : Hp) (J : It) (ds : List PyData) : Prop := ∀ i π e σ w, Mt C π e σ w → Same G w.G → (i < ds.length → J.go i w.H) ∧ (ds.length ≤ i → J.stop i w.H) ∧
  ∀ x H', J.yld i w.H x H' → ∀ d, ds[i]? = some d → ∃ w', Mt C π e σ w' ∧ Frm w w' ∧ w'.H = H' ∧ Rp C.K w'.G x d
def SI (C : Cc) (W : WX) (wi : TI) (f : FI) : Prop := ∀ π e σ w (R : It → Hp → Prop), Mt C π e σ w → Post C W π σ w (f e) (fun w' ds J => ItOk C w'.G J ds) R → wi σ w.H R
def VI (X : Cx) (ρ : Nat → Res) (W : WX) (tg iter : Expr) (f : FI) : Prop := ∃ wi, PI X tg iter wi ∧ SI (cc X ρ) W wi f
theorem it_list {C : Cc} {G : Hp} {p : Addr} {xs : List V} {ds : List PyData} (h : G p = some (.lst xs)) (r : RpAll C.K G xs ds) : ItOk C G (Itl C.K p) ds := fun i π e σ w m s => by
  have hH : w.H p = some (.lst xs) := m.sub _ _ (s _ _ h)
  have hl := r.length
  refine ⟨fun hi => ⟨xs, xs[i]'(by omega), .of hH, List.getElem?_eq_getElem (by omega)⟩, fun hi => ⟨xs, .of hH, by omega⟩, fun x H' y d hd => ?_⟩
  obtain ⟨rfl, hx⟩ := y
  obtain ⟨v, h1, h2⟩ := r.get hd
  have := hx xs (.of hH)
  rw [h1] at this
  cases this
  exact ⟨w, m, .refl w, rfl, h2.mono s⟩
theorem it_rng {C : Cc} {G : Hp} {lo : Int} {n : Nat} : ItOk C G (Itr lo n) (rngN lo n) := fun i π e σ w m s => by
  have hl : (rngN lo n).length = n := by unfold rngN; rw [List.length_map, List.length_range]
  rw [hl]
  refine ⟨fun hi => hi, fun hi => hi, fun x H' y d hd => ?_⟩
  obtain ⟨rfl, rfl⟩ := y
  unfold rngN at hd
  rw [List.getElem?_map] at hd
  cases q : (List.range n)[i]? with
  | none => rw [q] at hd; cases hd
  | some k =>
    rw [q] at hd
    obtain ⟨h1, h2⟩ := List.getElem?_eq_some_iff.mp q
    rw [List.getElem_range] at h2
    subst h2
    cases hd
    exact ⟨w, m, .refl w, rfl, .int _⟩
theorem enumL_get : ∀ {ds : List PyData} {k i : Nat} {d : PyData}, (enumL k ds)[i]? = some d → ∃ d', ds[i]? = some d' ∧ d = .tuple [.int ((k + i : Nat) : Int), d']
  | [], k, i, d, h => by simp [enumL] at h
  | x :: ds, k, 0, d, h => by
    simp [enumL] at h
    exact ⟨x, rfl, h.symm⟩
  | x :: ds, k, i + 1, d, h => by
    have h' : (enumL (k + 1) ds)[i]? = some d := by simpa [enumL] using h
    obtain ⟨d', h1, h2⟩ := enumL_get h'
    exact ⟨d', by simpa using h1, by rw [h2]; congr 3; omega⟩
theorem enumL_length : ∀ (ds : List PyData) (k : Nat), (enumL k ds).length = ds.length
  | [], _ => rfl
  | x :: ds, k => by simp [enumL, enumL_length ds]
theorem it_enum {C : Cc} {G : Hp} {p : Addr} {xs : List V} {ds : List PyData} (h : G p = some (.lst xs)) (r : RpAll C.K G xs ds) : ItOk C G (Ite C.K p) (enumL 0 ds) := fun i π e σ w m s => by
  have hH : w.H p = some (.lst xs) := m.sub _ _ (s _ _ h)
  have hl := r.length
  rw [enumL_length]
  refine ⟨fun hi => ⟨xs, xs[i]'(by omega), .of hH, List.getElem?_eq_getElem (by omega)⟩, fun hi => ⟨xs, .of hH, by omega⟩, fun x H' y d hd => ?_⟩
  obtain ⟨T, z, rfl, hT, rfl, hx⟩ := y
  obtain ⟨d', h1, rfl⟩ := enumL_get hd
  obtain ⟨v, h2, h3⟩ := r.get h1
  have := hx xs (.of hH)
  rw [h2] at this
  cases this
  obtain ⟨w2, m2, f2, eH, fp, k2⟩ := mk_tup (es := [.int ((0 + i : Nat) : Int), d']) m hT (.cons (by rw [Nat.zero_add]; exact .int _) (.cons (h3.mono s) .nil))
  exact ⟨w2, m2, f2, eH, k2.1.1⟩
theorem vi_seq {tg : Expr} (ha : VE X ρ W a fa) : VI X ρ W tg a (iSeq fa) := by
  obtain ⟨t, p, s⟩ := ha
  refine ⟨_, pi_list p, fun π e σ w R m h => ?_⟩
  refine s π e σ w _ m (h.bnd fun o1 e1 v1 w1 m1 f1 k1 h1 => ?_)
  cases q : fz e1 o1 with
  | none => rw [q] at h1; exact h1.elim
  | some pr =>
    rw [q] at h1
    simp only [Option.bind_some] at h1
    obtain ⟨w2, m2, f2, eH, r2⟩ := fz_sound (e' := pr.2) m1 f1 k1 q
    obtain ⟨d, e2⟩ := pr
    cases d with
    | list ds =>
      cases r2 with
      | lst g1 g2 =>
        rw [← eH]
        exact ⟨_, rfl, ⟨_, .of (m2.sub _ _ g1)⟩, h1 _ w2 m2 f2 (it_list g1 g2)⟩
    | none => exact h1.elim
    | bool i => exact h1.elim
    | int i => exact h1.elim
    | str i => exact h1.elim
    | tuple i => exact h1.elim
    | dict i => exact h1.elim
theorem lim_ok {i : Int} (h : lim i = true) : -(2 ^ 62) ≤ i ∧ i < 2 ^ 62 := by
  unfold lim at h
  rw [decide_eq_true_eq] at h
  omega
theorem vi_range1 {tg : Expr} (hm : X.mg "range" = none) (ha : VE X ρ W a fa) (hg : Gl X "range" := by rfl) (hs : starEach [a] X.env = (false, eval a X.env) :: starEach [] X.env := by rfl) :
    VI X ρ W tg (.Call (.Name "range" p) [a] [] pos) (iRange1 fa) := by
  obtain ⟨t, p, s⟩ := ha
  refine ⟨_, pi_range1 hg hm (pa_cons p pa_nil hs) hs, fun π e σ w R m h => ?_⟩
  refine s π e σ w _ m (h.bnd fun o1 e1 v1 w1 m1 f1 k1 h1 => ?_)
  cases q1 : res e1 o1 with
  | none => rw [q1] at h1; exact h1.elim
  | some d1 =>
    rw [q1] at h1
    have r := res_sound m1 k1 q1
    split at h1
    · rename_i j z
      cases z; cases r
      split at h1
      · rename_i hl
        have hl' := lim_ok hl
        exact ⟨j, rfl, hl'.1, hl'.2, h1 _ w1 m1 f1 it_rng⟩
      · exact h1.elim
    · exact h1.elim
theorem vi_range2 {tg : Expr} (hm : X.mg "range" = none) (ha : VE X ρ W a fa) (hb : VE X ρ W b fb) (hg : Gl X "range" := by rfl) (hs : starEach [a, b] X.env = (false, eval a X.env) :: starEach [b] X.env := by rfl) (hs2 : starEach [b] X.env = (false, eval b X.env) :: starEach [] X.env := by rfl)
    (hpl : (backTo pos (starEach [b] X.env)).any (·.1) = false := by rfl) : VI X ρ W tg (.Call (.Name "range" p) [a, b] [] pos) (iRange2 fa fb) := by
  obtain ⟨t, p, s⟩ := ha
  obtain ⟨t2, p2, s2⟩ := hb
  refine ⟨_, pi_range2 hg hm (pa_cons p (pa_cons p2 pa_nil hs2) hs) (by rw [hs, hs2]; rfl) hs2, fun π e σ w R m h => ?_⟩
  refine s π e σ w _ m (h.bnd fun o1 e1 v1 w1 m1 f1 k1 h1 => ?_)
  refine s2 π e1 σ w1 _ m1 ((h1.from f1).bnd fun o2 e2 v2 w2 m2 f2 k2 h2 => ?_)
  have h3 := h2.from f2
  have r1 : ∀ d, res e2 o1 = some d → Rq (cc X ρ).K w2.G w2.H v1 d := fun d q => res_sound m2 (k1.step f2) q
  have r2 : ∀ d, res e2 o2 = some d → Rq (cc X ρ).K w2.G w2.H v2 d := fun d q => res_sound m2 k2 q
  split at h3
  · rename_i i j q1 q2
    have z1 := r1 _ q1
    have z2 := r2 _ q2
    cases z1; cases z2
    split at h3
    · rename_i hl
      have hi := lim_ok hl.1
      have hj := lim_ok hl.2
      exact ⟨i, j, rfl, ⟨hi.1, hi.2, hj.1, hj.2⟩, h3 _ w2 m2 (.refl _) it_rng⟩
    · exact h3.elim
  · exact h3.elim
theorem vi_enum {elts : List Expr} {kk : Nat} {tpos : Pos} (hm : X.mg "enumerate" = none) (ha : VE X ρ W a fa) (hg : Gl X "enumerate" := by rfl) (hs : starEach [a] X.env = [(false, eval a X.env)] := by rfl) :
    VI X ρ W (.Tuple elts kk tpos) (.Call (.Name "enumerate" p) [a] [] pos) (iEnumr fa) := by
  obtain ⟨t, p, s⟩ := ha
  refine ⟨_, pi_enum hg hm (pa_cons p pa_nil hs) hs, fun π e σ w R m h => ?_⟩
  refine s π e σ w _ m (h.bnd fun o1 e1 v1 w1 m1 f1 k1 h1 => ?_)
  cases q : fz e1 o1 with
  | none => rw [q] at h1; exact h1.elim
  | some pr =>
    rw [q] at h1
    simp only [Option.bind_some] at h1
    obtain ⟨w2, m2, f2, eH, r2⟩ := fz_sound (e' := pr.2) m1 f1 k1 q
    obtain ⟨d, e2⟩ := pr
    cases d with
    | list ds =>
      cases r2 with
      | lst g1 g2 =>
        rw [← eH]
        exact ⟨_, _, rfl, .of (m2.sub _ _ g1), h1 _ w2 m2 f2 (it_enum g1 g2)⟩
    | none => exact h1.elim
    | bool i => exact h1.elim
    | int i => exact h1.elim
    | str i => exact h1.elim
    | tuple i => exact h1.elim
    | dict i => exact h1.elim
end
end VL
set_option maxRecDepth 100000
namespace VL
open PySem L2
section
variable {X : Cx} {ρ : Nat → Res} {W : WX} {pn : List Nat} {st : Stmt} {rest : List Stmt} {a b c tg iter : Expr} {es : List Expr} {pos p : Pos} {fa fb fc : FE} {ta tb tc : FT} {f g : FS} {fi : FI} {ft : FG}
def SG (C : Cc) (pn : List Nat) (t : TG) (f : FG) : Prop := ∀ π e σ w d x e' (Q : St → Hp → Prop), (∀ p ∈ π, p.1 ∈ pn) → Mt C π e σ w → Rp C.K w.G x d → f d e = some e' → (∀ σ' w', Mt C π e' σ' w' → Frm w w' → w'.H = w.H → Q σ' w'.H) → t x σ w.H Q
/-- also what becomes of the slots: those of vs alone change -/
def VG (X : Cx) (ρ : Nat → Res) (pn : List Nat) (tg : Expr) (f : FG) : Prop := ∃ t, PG X tg t ∧ SG (cc X ρ) pn t f
theorem bind_fr {C : Cc} {π : List (Nat × V)} {e : Env} {σ : St} {w : WS} {i : Nat} {d : PyData} {x : V} (m : Mt C π e σ w) (hp : ∀ p ∈ π, p.1 ≠ i) (r : Rp C.K w.G x d) :
    ∃ w', Mt C π (e.set i (some (.fr d))) (σ.set i (some x)) w' ∧ Frm w w' ∧ w'.H = w.H ∧ w'.G = w.G := m.bind (.refl w) hp (fp := fun _ => False) ⟨r, fun _ z => z⟩ fun _ z => z.elim
theorem sg_name {C : Cc} {i : Nat} (hi : i ∉ pn) : SG C pn (gName i) (gN i) := fun π e σ w d x e' Q hp m r hf h => by
  cases hf
  obtain ⟨w', m', f', eH, _⟩ := bind_fr m (fun p hq (z : p.1 = i) => hi (z ▸ hp p hq)) r
  rw [← eH]
  exact h _ w' m' f' eH
theorem vg_name (V0 : X.N.Nodup) (i : Nat) {x : Str} (hi : X.N[i]? = some x := by rfl) (hx : Loc X.env.scope x := by first | exact Or.inl rfl | exact Or.inr rfl) (hp : i ∉ pn := by decide)
    (hf : X.fn x = true ∨ X.env.scope.names.lookup x = some .local := by first | exact .inl rfl | exact .inr rfl) : VG X ρ pn (.Name x pos) (gN i) := ⟨_, pg_name V0 hi hx hf, sg_name hp⟩
theorem rp_tup {K : PySem.W.Frag} {G : Hp} {x : V} {ds : List PyData} (r : Rp K G x (.tuple ds)) : ∃ p xs, x = .ref p ∧ G p = some (.tup xs) ∧ RpAll K G xs ds := by
  cases r with
  | tup h1 h2 => exact ⟨_, _, rfl, h1, h2⟩
theorem vg_t2 (V0 : X.N.Nodup) (hc : X.calm = true) (i j : Nat) {x y : Str} {px py : Pos} {kk} (hi : X.N[i]? = some x := by rfl) (hj : X.N[j]? = some y := by rfl) (hx : Loc X.env.scope x := by first | exact Or.inl rfl | exact Or.inr rfl) (hy : Loc X.env.scope y := by first | exact Or.inl rfl | exact Or.inr rfl)
    (hp : i ∉ pn := by decide) (hq : j ∉ pn := by decide)
    (hf : X.fn x = true ∨ X.env.scope.names.lookup x = some .local := by first | exact .inl rfl | exact .inr rfl) (hf2 : X.fn y = true ∨ X.env.scope.names.lookup y = some .local := by first | exact .inl rfl | exact .inr rfl)
    (hn : (assignEach [.Name x px, .Name y py] X.env).length = 2 := by rfl) (hst : (assignEach [.Name x px, .Name y py] X.env).findIdx? (·.1) = none := by rfl)
    (hs1 : (assignEach (.Name x px :: [.Name y py]) X.env).map (·.2) = assign (.Name x px) X.env :: (assignEach [.Name y py] X.env).map (·.2) := by rfl)
    (hs2 : (assignEach (.Name y py :: []) X.env).map (·.2) = assign (.Name y py) X.env :: (assignEach [] X.env).map (·.2) := by rfl) : VG X ρ pn (.Tuple [.Name x px, .Name y py] kk pos) (gT2 i j) := by
  refine ⟨_, pg_tup hc (pgs_cons (pg_name V0 hi hx hf) (pgs_cons (pg_name V0 hj hy hf2) pgs_nil hs2) hs1) hn hst, fun π e σ w d z e' Q hpi m r hg h => ?_⟩
  unfold gT2 at hg
  split at hg
  · cases hg
    obtain ⟨q, xs, rfl, g1, g2⟩ := rp_tup r
    cases g2 with
    | cons r1 g3 =>
      cases g3 with
      | cons r2 g4 =>
        cases g4
        obtain ⟨w1, m1, f1, eH1, eG1⟩ := bind_fr m (fun p hq (z : p.1 = i) => hp (z ▸ hpi p hq)) r1
        obtain ⟨w2, m2, f2, eH2, _⟩ := bind_fr m1 (fun p hq' (z : p.1 = j) => hq (z ▸ hpi p hq')) (by rw [eG1]; exact r2)
        refine ⟨q, _, rfl, .of (m.sub _ _ g1), rfl, _, _, rfl, _, _, rfl, rfl, ?_⟩
        rw [← eH1, ← eH2]
        exact h _ w2 m2 (f1.trans f2) (eH2.trans eH1)
  · cases hg
theorem forget_post {C : Cc} {π : List (Nat × V)} {e : Env} {σ : St} {w w0 : WS} {vs : List Nat} {D : St → Hp → Prop} (m : Mt C π e σ w) (f : Frm w0 w) (h : ∀ σ' w', Mt C π (forget vs e) σ' w' → Frm w0 w' → D σ' w'.H) : D σ w.H := by
  obtain ⟨w', m', f', eH, _⟩ := m.forget (vs := vs)
  rw [← eH]
  exact h σ w' m' (f.trans f')
theorem ss_for {C : Cc} {wi : TI} {t : TG} {tb : TS} (dead : List Nat) (si : SI C W wi fi) (sg : SG C pn t ft) (sb : SS C W pn tb f) : SS C W pn (tFor wi t tb) (sFor fi ft f dead) := fun π e σ w D hp m h => by
  refine si π e σ w _ m (h.bnd fun ds e1 J w1 m1 f1 k1 h1 => ?_)
  have h2 := h1.from f1
  refine ⟨fun i n σ' H' => n = ds.length - i ∧ i ≤ ds.length ∧ ∃ e' w', w'.H = H' ∧ Mt C π e' σ' w' ∧ Same w1.G w'.G ∧ PostS C W π w' (sForL ft f dead (ds.drop i) e') D, ⟨ds.length, by simp, Nat.zero_le _, e1, w1, rfl, m1, Same.refl _, by rw [List.drop_zero]; exact h2⟩, ?_⟩
  rintro i n σ' H' ⟨rfl, hi, e', w', rfl, m', sG, h3⟩
  obtain ⟨go, stop, yld⟩ := k1 i π e' σ' w' m' sG
  by_cases hlt : i < ds.length
  · refine .inr ⟨go hlt, fun σ2 H2 => i + 1 ≤ ds.length ∧ ∃ e2 w2, w2.H = H2 ∧ Mt C π e2 σ2 w2 ∧ Same w1.G w2.G ∧ PostS C W π w2 (sForL ft f dead (ds.drop (i + 1)) e2) D, fun σ2 H2 q => ⟨ds.length - (i + 1), by omega, rfl, q⟩, fun x H2 y => ?_⟩
    obtain ⟨w2, m2, f2, eH2, r2⟩ := yld x H2 y ds[i] (List.getElem?_eq_getElem hlt)
    subst eH2
    rw [List.drop_eq_getElem_cons hlt] at h3
    have h4 := h3.from f2
    unfold sForL at h4
    cases q : ft ds[i] e' with
    | none => rw [q] at h4; exact h4.elim
    | some e3 =>
      rw [q] at h4
      simp only at h4
      refine sg π e' σ' w2 ds[i] x e3 _ hp m2 r2 q fun σ3 w3 m3 f3 _ => ?_
      have h5 := h4.from f3
      refine sb π e3 σ3 w3 _ hp m3 ?_
      have sG3 : Same w1.G w3.G := (sG.trans f2.g).trans f3.g
      have again : ∀ {σ4 w4 e4}, Mt C π e4 σ4 w4 → Frm w3 w4 → PostS C W π w3 (sForL ft f dead (ds.drop (i + 1)) (forget dead e4)) D →
          i + 1 ≤ ds.length ∧ ∃ e2 w2, w2.H = w4.H ∧ Mt C π e2 σ4 w2 ∧ Same w1.G w2.G ∧ PostS C W π w2 (sForL ft f dead (ds.drop (i + 1)) e2) D := fun {σ4 w4 e4} m4 f4 h6 => by
        obtain ⟨w5, m5, f5, eH5, eG5, _⟩ := m4.forget (vs := dead)
        exact ⟨hlt, _, w5, eH5, m5, (sG3.trans f4.g).trans f5.g, h6.from (f4.trans f5)⟩
      cases q2 : f e3 with
      | none => rw [q2] at h5; exact h5.elim
      | some x =>
        rw [q2] at h5
        cases x with
        | nx e4 => exact fun σ4 w4 m4 f4 => again m4 f4 h5
        | ct e4 => exact fun σ4 w4 m4 f4 => again m4 f4 h5
        | bk e4 => exact fun σ4 w4 m4 f4 => forget_post m4 f4 h5
        | rt b e4 => exact h5
        | ex c e4 => exact h5
  · have e2 : i = ds.length := by omega
    subst e2
    rw [List.drop_length] at h3
    exact .inl ⟨stop (Nat.le_refl _), forget_post m' (.refl _) h3⟩
theorem vs_for (V0 : Vx X W) (dead : List Nat) {body : List Stmt} (hi : VI X ρ W tg iter fi) (hg : VG X ρ pn tg ft) (hb : VSs X ρ W pn body f) (hs : ∀ x, foldedSetIterable iter X.env x = pure x := by intro _; rfl) : VS X ρ W pn (.For tg iter body [] pos) (sFor fi ft f dead) := by
  obtain ⟨wi, pi, si⟩ := hi
  obtain ⟨t, pg, sg⟩ := hg
  obtain ⟨tb, pb, sb⟩ := hb
  exact ⟨_, ps_for V0.po V0.calm pi pg pb hs, ss_for dead si sg sb⟩
abbrev W0 : WX := fun _ _ _ _ => False
/-- the tests of a comprehension -/
def VC (X : Cx) (ρ : Nat → Res) (ifs : List Expr) (f : FT) : Prop := ∃ t, PTs X ifs t ∧ ST (cc X ρ) W0 t f
theorem vc_no : VC X ρ [] tTrue := ⟨_, pts_nil, fun π e σ w Q m h => h true w m (.refl w) rfl⟩
theorem vc_if (h : VT X ρ W0 a ta) : VC X ρ [a] ta := by
  obtain ⟨t, p, s⟩ := h
  exact ⟨_, pts_one p, s⟩
theorem wipe_get {σ : St} {i : Nat} : ∀ {vs : List Nat}, i ∉ vs → (wipe σ vs)[i]? = σ[i]?
  | [], _ => rfl
  | v :: vs, h => by
    simp only [List.mem_cons, not_or] at h
    show ((wipe σ vs).set v none)[i]? = σ[i]?
    rw [List.getElem?_set_ne (Ne.symm h.1)]
    exact wipe_get h.2
/-- into the comprehension's own frame, and out of it -/
theorem Mt.wipe {C : Cc} {π : List (Nat × V)} {e : Env} {σ : St} {w : WS} {vs : List Nat} (m : Mt C π e σ w) (hv : ∀ i b, at? e i = some b → i ∉ vs) : Mt C [] e (L2.wipe σ vs) w :=
  ⟨by rw [wipe_length]; exact m.len, m.sub, m.tg, fun i b q => by
    obtain ⟨v, h1, h2⟩ := m.bok i b q
    exact ⟨v, by rw [wipe_get (hv i b q)]; exact h1, h2⟩, m.non, m.dis, fun p h => by cases h⟩
theorem Mt.unwipe {C : Cc} {π : List (Nat × V)} {e : Env} {σ σ' : St} {w : WS} {vs : List Nat} (m : Mt C [] e σ' w) (hw : L2.wipe σ' vs = L2.wipe σ vs) (hl : σ'.length = σ.length) (hv : ∀ i b, at? e i = some b → i ∉ vs) (hp : ∀ p ∈ π, σ[p.1]? = some (some p.2)) : Mt C π e σ w :=
  ⟨m.len.trans hl, m.sub, m.tg, fun i b q => by
    obtain ⟨v, h1, h2⟩ := m.bok i b q
    refine ⟨v, ?_, h2⟩
    have hi := hv i b q
    have e1 : (L2.wipe σ' vs)[i]? = (L2.wipe σ vs)[i]? := by rw [hw]
    rw [wipe_get hi, wipe_get hi] at e1
    rw [← e1]
    exact h1, m.non, m.dis, hp⟩
/-- the wiped slots may change alone -/
def WipeG (t : TG) (vs : List Nat) : Prop := ∀ x σ τ H (Q : St → Hp → Prop), L2.wipe σ vs = τ → t x σ H (fun σ' H' => L2.wipe σ' vs = τ → σ'.length = σ.length → Q σ' H') → t x σ H fun σ' H' => L2.wipe σ' vs = τ ∧ Q σ' H'
theorem wipe_set {σ : St} {i : Nat} {x : Option V} : ∀ {vs : List Nat}, i ∈ vs → L2.wipe (σ.set i x) vs = L2.wipe σ vs
  | v :: vs, h => by
    show (L2.wipe (σ.set i x) vs).set v none = (L2.wipe σ vs).set v none
    by_cases hi : i ∈ vs
    · rw [wipe_set hi]
    · have hv : i = v := by
        rcases List.mem_cons.mp h with e | e
        · exact e
        · exact absurd e hi
      subst hv
      apply List.ext_getElem?
      intro k
      by_cases hk : k = i
      · subst hk
        by_cases hl : k < σ.length
        · rw [List.getElem?_set_self (by rw [wipe_length, List.length_set]; exact hl), List.getElem?_set_self (by rw [wipe_length]; exact hl)]
        · rw [List.getElem?_eq_none (by rw [List.length_set, wipe_length, List.length_set]; omega), List.getElem?_eq_none (by rw [List.length_set, wipe_length]; omega)]
      · rw [List.getElem?_set_ne (Ne.symm hk), List.getElem?_set_ne (Ne.symm hk)]
        have go : ∀ us : List Nat, (L2.wipe (σ.set i x) us)[k]? = (L2.wipe σ us)[k]? := by
          intro us
          induction us with
          | nil => exact List.getElem?_set_ne (Ne.symm hk)
          | cons u us ih =>
            show ((L2.wipe (σ.set i x) us).set u none)[k]? = ((L2.wipe σ us).set u none)[k]?
            by_cases hu : u = k
            · subst hu
              by_cases hl : u < σ.length
              · rw [List.getElem?_set_self (by rw [wipe_length, List.length_set]; exact hl), List.getElem?_set_self (by rw [wipe_length]; exact hl)]
              · rw [List.getElem?_eq_none (by rw [List.length_set, wipe_length, List.length_set]; omega), List.getElem?_eq_none (by rw [List.length_set, wipe_length]; omega)]
            · rw [List.getElem?_set_ne hu, List.getElem?_set_ne hu]
              exact ih
        exact go vs
theorem wipe_wipe {σ : St} {vs : List Nat} : L2.wipe (L2.wipe σ vs) vs = L2.wipe σ vs := by
  have go : ∀ us : List Nat, (∀ u ∈ us, u ∈ vs) → L2.wipe (L2.wipe σ vs) us = L2.wipe σ vs := by
    intro us
    induction us with
    | nil => intro _; rfl
    | cons u us ih =>
      intro hu
      show (L2.wipe (L2.wipe σ vs) us).set u none = L2.wipe σ vs
      rw [ih fun v hv => hu v (List.mem_cons_of_mem _ hv)]
      apply List.ext_getElem?
      intro k
      by_cases hk : u = k
      · subst hk
        by_cases hl : u < σ.length
        · rw [List.getElem?_set_self (by rw [wipe_length]; exact hl)]
          cases q : (L2.wipe σ vs)[u]? with
          | none =>
            rw [List.getElem?_eq_none_iff, wipe_length] at q
            omega
          | some z =>
            cases z with
            | none => rfl
            | some z => exact absurd (hu u List.mem_cons_self) (wipe_some q).2
        · rw [List.getElem?_eq_none (by rw [List.length_set, wipe_length]; omega), List.getElem?_eq_none (by rw [wipe_length]; omega)]
      · rw [List.getElem?_set_ne hk]
  exact go vs fun _ h => h
theorem wg_name {i : Nat} {vs : List Nat} (h : i ∈ vs) : WipeG (gName i) vs := fun x σ τ H Q e q => ⟨(wipe_set h).trans e, q ((wipe_set h).trans e) List.length_set⟩
theorem se_lc {C : Cc} {wi : TI} {t : TG} {tt : TT} {te : TE} {vs : List Nat} (si : SI C W wi fi) (sg : SG C [] t ft) (wg : WipeG t vs) (st : ST C W0 tt ta) (sf : SE C W0 te fa) : SE C W (tLc wi t tt te vs) (fLc fi ft ta fa vs) := fun π e σ w Q m h => by
  refine si π e σ w _ m (h.bnd fun ds e1 J w1 m1 f1 k1 h1 => ?_)
  intro D hD
  obtain ⟨wf, mf, ff, eHf, eGf, hlf⟩ := m1.forget (vs := vs)
  have hDf : wf.H D = none := by rw [eHf]; exact hD
  have hDw : w.H D = none := f1.t D hD
  have hG1 : wf.G D = none := mf.sub.free hDf
  have m2 := mf.new (o := .lst []) hDf
  have f2 := Frm.new (o := .lst []) hDf
  have hno : ∀ i, ¬ (wf.new D (.lst [])).fp i D := fun i => mf.notOwned hDf i
  have mw : Mt C [] (forget vs e1) (L2.wipe σ vs) (wf.new D (.lst [])) := m2.wipe fun i b q => (at_forget q).2
  -- the invariant
  refine ⟨fun i n H' => n = ds.length - i ∧ i ≤ ds.length ∧ ∃ e' w' acc xs, w'.H = H' ∧ Mt C [] e' (L2.wipe σ vs) w' ∧ (∀ j b, at? e' j = some b → j ∉ vs) ∧ Frm w1 w' ∧ Same w1.G w'.G ∧ w'.H D = some (.lst xs) ∧ w'.G D = none ∧ (∀ j, ¬ w'.fp j D) ∧ RpAll C.K w'.G xs acc ∧
      Post C W π σ w (fLcL ft ta fa vs (ds.drop i) acc e') (OOk C σ w) Q,
    ⟨ds.length, by simp, Nat.zero_le _, forget vs e1, wf.new D (.lst []), [], [], by rw [show (wf.new D (.lst [])).H = upd wf.H D (.lst []) from rfl, eHf], mw, fun j b q => (at_forget q).2, ff.trans f2, (ff.trans f2).g, upd_same, hG1, hno, .nil, by rw [List.drop_zero]; exact h1⟩, ?_⟩
  rintro i n H' ⟨rfl, hi, e', w', acc, xs, rfl, m', hv', fr', sG, hDx, hGD, hnD, rA, h3⟩
  obtain ⟨go, stop, yld⟩ := k1 i [] e' _ w' m' sG
  have frw : Frm w w' := f1.trans fr'
  by_cases hlt : i < ds.length
  · refine .inr ⟨go hlt, fun H2 => i + 1 ≤ ds.length ∧ ∃ e' w' acc xs, w'.H = H2 ∧ Mt C [] e' (L2.wipe σ vs) w' ∧ (∀ j b, at? e' j = some b → j ∉ vs) ∧ Frm w1 w' ∧ Same w1.G w'.G ∧ w'.H D = some (.lst xs) ∧ w'.G D = none ∧ (∀ j, ¬ w'.fp j D) ∧ RpAll C.K w'.G xs acc ∧
      Post C W π σ w (fLcL ft ta fa vs (ds.drop (i + 1)) acc e') (OOk C σ w) Q, fun H2 q => ⟨ds.length - (i + 1), by omega, rfl, q⟩, fun x H2 y => ?_⟩
    obtain ⟨w2, m2, f2, eH2, r2⟩ := yld x H2 y ds[i] (List.getElem?_eq_getElem hlt)
    subst eH2
    rw [List.drop_eq_getElem_cons hlt] at h3
    unfold fLcL at h3
    cases q : ft ds[i] e' with
    | none => rw [q] at h3; exact h3.elim
    | some e3 =>
      rw [q] at h3
      simp only at h3
      -- the target
      have ww := wipe_wipe (σ := σ) (vs := vs)
      -- the rest of the turn, for whatever slots
      have turn : ∀ σ3 w3, L2.wipe σ3 vs = L2.wipe σ vs → σ3.length = σ.length → Mt C [] e3 σ3 w3 → Frm w2 w3 → tt σ3 w3.H fun b H3 => if b = true then te σ3 H3 fun y H4 => ∃ acc, H4 D = some (.lst acc) ∧ acc.length < sizeLine ∧
          (i + 1 ≤ ds.length ∧ ∃ e' w' acc_1 xs, w'.H = upd H4 D (.lst (acc ++ [y])) ∧ Mt C [] e' (L2.wipe σ vs) w' ∧ (∀ j b, at? e' j = some b → j ∉ vs) ∧ Frm w1 w' ∧ Same w1.G w'.G ∧ w'.H D = some (.lst xs) ∧ w'.G D = none ∧ (∀ j, ¬ w'.fp j D) ∧ RpAll C.K w'.G xs acc_1 ∧ Post C W π σ w (fLcL ft ta fa vs (ds.drop (i + 1)) acc_1 e') (OOk C σ w) Q)
          else (i + 1 ≤ ds.length ∧ ∃ e' w' acc_1 xs, w'.H = H3 ∧ Mt C [] e' (L2.wipe σ vs) w' ∧ (∀ j b, at? e' j = some b → j ∉ vs) ∧ Frm w1 w' ∧ Same w1.G w'.G ∧ w'.H D = some (.lst xs) ∧ w'.G D = none ∧ (∀ j, ¬ w'.fp j D) ∧ RpAll C.K w'.G xs acc_1 ∧ Post C W π σ w (fLcL ft ta fa vs (ds.drop (i + 1)) acc_1 e') (OOk C σ w) Q) := by
        intro σ3 w3 hw3 hl3 m3 f3
        have fD : ∀ {w4}, Frm w' w4 → w4.H D = some (.lst xs) ∧ w4.G D = none ∧ ∀ j, ¬ w4.fp j D := fun {w4} f => by
          obtain ⟨g1, g2, g3⟩ := f.k D _ hDx hnD
          exact ⟨g1, g2.trans hGD, g3⟩
        refine st [] e3 σ3 w3 _ m3 ?_
        cases qt : ta e3 with
        | none => rw [qt] at h3; exact h3.elim
        | some ot =>
          rw [qt] at h3
          cases ot with
          | ex c e => exact h3.elim
          | ok bt e4 =>
            intro b w4 m4 f4 eb
            subst eb
            have f24 : Frm w' w4 := (f2.trans f3).trans f4
            cases bt with
            | false =>
              rw [if_neg Bool.false_ne_true]
              simp only at h3
              obtain ⟨w5, m5, f5, eH5, eG5, _⟩ := m4.forget (vs := vs)
              have f25 := f24.trans f5
              obtain ⟨g1, g2, g3⟩ := fD f25
              refine ⟨hlt, _, w5, acc, xs, eH5, (m5.unwipe (π := []) (vs := vs) (by rw [ww]; exact hw3) (by rw [wipe_length]; exact hl3) (fun j b q => (at_forget q).2) (fun p h => by cases h)), fun j b q => (at_forget q).2, fr'.trans f25, sG.trans f25.g, g1, g2, g3, rA.mono f25.g, h3⟩
            | true =>
              rw [if_pos rfl]
              simp only at h3
              refine sf [] e4 σ3 w4 _ m4 ?_
              cases qf : fa e4 with
              | none => rw [qf] at h3; exact h3.elim
              | some of_ =>
                rw [qf] at h3
                cases of_ with
                | ex c e => exact h3.elim
                | ok o e5 =>
                  intro yv w5 m5 f5 k5
                  simp only at h3
                  cases qz : fz e5 o with
                  | none => rw [qz] at h3; exact h3.elim
                  | some pz =>
                    rw [qz] at h3
                    obtain ⟨dz, ez⟩ := pz
                    simp only at h3
                    obtain ⟨w6, m6, f6, eH6, r6⟩ := fz_sound m5 f5 k5 qz
                    split at h3
                    case isFalse => exact h3.elim
                    case isTrue hbig =>
                      have f26 : Frm w' w6 := f24.trans f6
                      obtain ⟨g1, g2, g3⟩ := fD f26
                      have hlen := rA.length
                      refine ⟨xs, by rw [← eH6]; exact g1, by rw [hlen]; exact Nat.lt_of_lt_of_le hbig big_le, hlt, ?_⟩
                      -- D grows
                      obtain ⟨w7, m7, f7, eH7, eG7, hl7⟩ := m6.forget (vs := vs)
                      have f27 := f26.trans f7
                      obtain ⟨a1, a2, a3⟩ := fD f27
                      have m8 : Mt C [] (forget vs ez) (L2.wipe σ vs) { w7 with H := upd w7.H D (.lst (xs ++ [yv])) } := by
                        have m7' := m7.unwipe (σ := L2.wipe σ vs) (π := []) (vs := vs) (by rw [ww]; exact hw3) (by rw [wipe_length]; exact hl3) (fun j b q => (at_forget q).2) (fun p h => by cases h)
                        refine ⟨m7'.len, fun a u qa => ?_, m7'.tg.put (fun _ h => by cases h), fun j b qb => ?_, m7'.non, m7'.dis, m7'.pin⟩
                        · show upd w7.H D (.lst (xs ++ [yv])) a = some u
                          rw [upd_ne (ne_of_none qa a2)]
                          exact m7'.sub a u qa
                        · obtain ⟨v, b1, b2⟩ := m7'.bok j b qb
                          refine ⟨v, b1, b2.mono (Same.refl _) fun a ha => ⟨upd_ne fun z => a3 j (by rw [← z]; exact ha), rfl⟩⟩
                      refine ⟨_, _, acc ++ [dz], xs ++ [yv], by show upd w7.H D _ = _; rw [eH7, eH6], m8, fun j b q => (at_forget q).2, ⟨(fr'.trans f27).g, fun a o ha hna => ?_, fun a ha => ?_⟩, sG.trans f27.g, upd_same, a2, a3, (rA.mono f27.g).append (.cons (r6.mono f7.g) .nil), h3⟩
                      · obtain ⟨b1, b2, b3⟩ := (fr'.trans f27).k a o ha hna
                        refine ⟨?_, b2, b3⟩
                        show upd w7.H D _ a = some o
                        rw [upd_ne (ne_of_none ha hD)]
                        exact b1
                      · by_cases z : a = D
                        · rw [z]; exact hD
                        · have ha' : upd w7.H D (.lst (xs ++ [yv])) a = none := ha
                          rw [upd_ne z] at ha'
                          exact (fr'.trans f27).t a ha'
      exact wg x _ _ _ _ ww (sg [] e' _ w2 ds[i] x e3 _ (fun p h => by cases h) m2 r2 q fun σ3 w3 m3 f3 _ hw hl => turn σ3 w3 hw (hl.trans (wipe_length σ vs)) m3 f3)
  · have e2 : i = ds.length := by omega
    subst e2
    rw [List.drop_length] at h3
    refine .inl ⟨stop (Nat.le_refl _), ?_⟩
    have mu : Mt C π e' σ w' := m'.unwipe (σ := σ) (vs := vs) wipe_wipe (wipe_length σ vs) hv' m.pin
    exact h3 (.ref D) w' mu frw ⟨fun a => a = D, ⟨D, xs, rfl, hGD, hDx, rA, fun _ => Iff.rfl⟩, fun a ha => by subst ha; exact ⟨.inl hDw, hnD⟩⟩
end
end VL
set_option maxRecDepth 100000
namespace VL
open PySem L2
section
variable {X : Cx} {ρ : Nat → Res} {W : WX} {pn : List Nat} {st : Stmt} {rest : List Stmt} {a b c tg iter elt : Expr} {es ifs : List Expr} {pos p : Pos} {fa fb fc : FE} {ta tb tc : FT} {f g : FS} {fi : FI} {ft : FG} {as_ : FA}
theorem Vx.blk (V0 : Vx X W) (s : Shared) (H : Hp) (scope : Scope) (cenv : PySem.Env) (fp : List Addr) : Vx (X.blk s H scope cenv fp) W0 := ⟨V0.calm, V0.room, V0.gd, V0.sm, V0.nd, takes0, PassesOwn.never⟩
theorem pe_less {t t' : TE} (h : PE X a t) (k : ∀ σ H Q, t' σ H Q → t σ H Q) : PE X a t' := ⟨fun pins s σ H Q I q => h.run pins s σ H Q I (k σ H Q q)⟩
theorem pts_less {t t' : TT} (h : PTs X ifs t) (k : ∀ σ H Q, t' σ H Q → t σ H Q) : PTs X ifs t' := ⟨fun pins s σ H Q I q => h.run pins s σ H Q I (k σ H Q q)⟩
/-- the parts of a comprehension, the same readings whatever frame it gets -/
theorem lc_parts {scope : Scope} (V0 : Vx X W)
    (ht : ∀ (s : Shared) (H : Hp) (C : Addr) (cl : List (Str × Addr)) (fp : List Addr), Vx (X.blk s H scope (compEnvC scope cl C X.env) fp) W0 → VC (X.blk s H scope (compEnvC scope cl C X.env) fp) ρ ifs ta)
    (he : ∀ (s : Shared) (H : Hp) (C : Addr) (cl : List (Str × Addr)) (fp : List Addr), Vx (X.blk s H scope (compEnvC scope cl C X.env) fp) W0 → VE (X.blk s H scope (compEnvC scope cl C X.env) fp) ρ W0 elt fa) :
    ∃ (tt : TT) (te : TE), (∀ (s : Shared) (H : Hp) (C : Addr) (cl : List (Str × Addr)) (fp : List Addr), PTs (X.blk s H scope (compEnvC scope cl C X.env) fp) ifs tt) ∧ (∀ (s : Shared) (H : Hp) (C : Addr) (cl : List (Str × Addr)) (fp : List Addr), PE (X.blk s H scope (compEnvC scope cl C X.env) fp) elt te) ∧
      ST (cc X ρ) W0 tt ta ∧ SE (cc X ρ) W0 te fa := by
  have h1 := fun s H C cl fp => ht s H C cl fp (V0.blk s H scope _ fp)
  have h2 := fun s H C cl fp => he s H C cl fp (V0.blk s H scope _ fp)
  refine ⟨fun σ H' Q => ∀ s H C cl fp, (h1 s H C cl fp).choose σ H' Q, fun σ H' Q => ∀ s H C cl fp, (h2 s H C cl fp).choose σ H' Q, fun s H C cl fp => ?_, fun s H C cl fp => ?_, ?_, ?_⟩
  · exact pts_less (h1 s H C cl fp).choose_spec.1 fun σ H' Q q => q s H C cl fp
  · exact pe_less (h2 s H C cl fp).choose_spec.1 fun σ H' Q q => q s H C cl fp
  · intro π e σ w Q m h s H C cl fp
    exact (h1 s H C cl fp).choose_spec.2 π e σ w Q m h
  · intro π e σ w Q m h s H C cl fp
    exact (h2 s H C cl fp).choose_spec.2 π e σ w Q m h
theorem ve_lc {scope : Scope} (V0 : Vx X W) (own : List (Str × Nat)) {t : TG} (hi : VI X ρ W tg iter fi) (ok : blkC X.N X.env.scope scope own = true)
    (hg : ∀ (s : Shared) (H : Hp) (C : Addr) (cl : List (Str × Addr)) (fp : List Addr), PG (X.blk s H scope (compEnvC scope cl C X.env) fp) tg t) (sg : SG (cc X ρ) [] t ft) (wg : WipeG t (own.map (·.2)))
    (ht : ∀ (s : Shared) (H : Hp) (C : Addr) (cl : List (Str × Addr)) (fp : List Addr), Vx (X.blk s H scope (compEnvC scope cl C X.env) fp) W0 → VC (X.blk s H scope (compEnvC scope cl C X.env) fp) ρ ifs ta)
    (he : ∀ (s : Shared) (H : Hp) (C : Addr) (cl : List (Str × Addr)) (fp : List Addr), Vx (X.blk s H scope (compEnvC scope cl C X.env) fp) W0 → VE (X.blk s H scope (compEnvC scope cl C X.env) fp) ρ W0 elt fa) (hs : ∀ x, foldedSetIterable iter X.env x = pure x := by intro _; rfl) :
    VE X ρ W (.ListComp elt [⟨tg, iter, ifs, 0⟩] scope pos) (fLc fi ft ta fa (own.map (·.2))) := by
  obtain ⟨wi, pi, si⟩ := hi
  obtain ⟨tt, te, p1, p2, s1, s2⟩ := lc_parts V0 ht he
  exact ⟨_, pe_lc V0.calm V0.nd pi (blkOk_by ok) hg p1 p2 hs, se_lc si sg wg s1 s2⟩
/-- name = [..], the name a local -/
theorem vs_asgLc {scope : Scope} {y : Str} {py spos : Pos} {t : TG} (V0 : Vx X W) (i : Nat) (own : List (Str × Nat)) (hi : VI X ρ W tg iter fi) (ok : blkC X.N X.env.scope scope own = true)
    (hg : ∀ (s : Shared) (H : Hp) (C : Addr) (cl : List (Str × Addr)) (fp : List Addr), PG (X.blk s H scope (compEnvC scope cl C X.env) fp) tg t) (sg : SG (cc X ρ) [] t ft) (wg : WipeG t (own.map (·.2)))
    (ht : ∀ (s : Shared) (H : Hp) (C : Addr) (cl : List (Str × Addr)) (fp : List Addr), Vx (X.blk s H scope (compEnvC scope cl C X.env) fp) W0 → VC (X.blk s H scope (compEnvC scope cl C X.env) fp) ρ ifs ta)
    (he : ∀ (s : Shared) (H : Hp) (C : Addr) (cl : List (Str × Addr)) (fp : List Addr), Vx (X.blk s H scope (compEnvC scope cl C X.env) fp) W0 → VE (X.blk s H scope (compEnvC scope cl C X.env) fp) ρ W0 elt fa)
    (hsw : swapsWith (.ListComp elt [⟨tg, iter, ifs, 0⟩] scope pos) (some (.Name y py)) spos.line X.env = pure true) (hy : X.N[i]? = some y := by rfl) (hyl : X.env.scope.names.lookup y = some .local := by rfl) (hp : i ∉ pn := by decide)
    (hs : ∀ x, foldedSetIterable iter X.env x = pure x := by intro _; rfl) :
    VS X ρ W pn (.Assign [.Name y py] (.ListComp elt [⟨tg, iter, ifs, 0⟩] scope pos) spos) (sAsg i (fLc fi ft ta fa (own.map (·.2)))) ∧
    VS X ρ W pn (.Assign [.Name y py] (.ListComp elt [⟨tg, iter, ifs, 0⟩] scope pos) spos) (sOwn i (fLc fi ft ta fa (own.map (·.2)))) := by
  obtain ⟨wi, pi, si⟩ := hi
  obtain ⟨tt, te, p1, p2, s1, s2⟩ := lc_parts V0 ht he
  have q := ps_setLc V0.calm V0.nd hy hyl hsw pi (blkOk_by ok) hg p1 p2 hs
  exact ⟨⟨_, q, ss_asg hp (se_lc si sg wg s1 s2)⟩, ⟨_, q, ss_own hp (se_lc si sg wg s1 s2)⟩⟩
/-- an own class of error, without methods, over ValueError -/
structure XC (K : PySem.W.Frag) (mg : Str → Option Value) (c : Str) : Prop where
  ex : ∃ A, mg c = some (.ref A) ∧ PySem.W.excIn K A [.type "ValueError", .type "Exception", .type "BaseException", .type "object"] "ValueError.__new__" = true ∧ PySem.W.keepIn K (.ref A) = true ∧
    PySem.W.subIn K (.ref A) (.type "BaseException") = some true ∧ PySem.W.typeIn K (.ref A) = some (.type "type")
theorem vs_raise {x m : Str} {j : Nat} {p1 p2 p3 : Pos} (V0 : Vx X W) (hx : XC X.K X.mg x) (hg : Gl X x := by rfl) (hdb : (x == ("__debug__" : Str)) = false := by decide) : VS X ρ W pn (.Raise (some (.Call (.Name x p1) [.Constant (.str m) j p2] [] p3)) none pos) (sRaise x) := by
  obtain ⟨A, h1, h2, h3, h4, h5⟩ := hx.ex
  refine ⟨_, ps_raise V0.calm V0.tk (pmk_own PySem.F.excBase_ValueError h2 h1 h3 (raises_own h4 h5) hg hdb), fun π e σ w D hp m h => ?_⟩
  exact h σ w A h1 m (.refl w)
def mask (ms : List Nat) (e : Env) (k : Nat) : Env := (List.range k).map fun j => if j ∈ ms then at? e j else none
def PostF (C : Cc) (ms : List Nat) (vs : List V) (w : WS) (r : Option FR) (Q : VK) (E : XK) : Prop := match r with
  | none => False
  | some (.ret b e) => ∀ v w', Mt C [] (mask ms e vs.length) (vs.map some) w' → Frm w w' → OOk C (vs.map some) w w' (.b b) v → Q v w'.H
  | some (.ex c e) => ∀ w' A, C.mg c = some (.ref A) → Mt C [] (mask ms e vs.length) (vs.map some) w' → Frm w w' → E (.ref A) none w'.H
/-- a def's promise: it computes F; the parameters at ms are changed -/
def spV (C : Cc) (n : Nat) (ms : List Nat) (F : Fn) : Sp := fun vs H Q E => vs.length = n ∧ ∃ (bs : List B) (w : WS), w.H = H ∧ Mt C [] (bs.map some) (vs.map some) w ∧ PostF C ms vs w (F bs) Q E
theorem at_map {bs : List B} {i : Nat} : at? (bs.map some) i = bs[i]? := by
  unfold at?
  rw [List.getElem?_map]
  cases bs[i]? <;> rfl
theorem at_app {bs : List B} {k i : Nat} {b : B} (h : at? (bs.map some ++ List.replicate k none) i = some b) : bs[i]? = some b := by
  unfold at? at h
  by_cases hi : i < bs.length
  · rw [List.getElem?_append_left (by simpa using hi), List.getElem?_map] at h
    cases q : bs[i]? with
    | none => rw [q] at h; cases h
    | some z => rw [q] at h; exact h
  · rw [List.getElem?_append_right (by simpa using hi), List.getElem?_replicate] at h
    split at h <;> (rename_i z; split at z <;> cases z) <;> cases h
theorem at_mask {ms : List Nat} {e : Env} {k i : Nat} {b : B} (h : at? (mask ms e k) i = some b) : i ∈ ms ∧ i < k ∧ at? e i = some b := by
  unfold at? mask at h
  rw [List.getElem?_map] at h
  by_cases hi : i < k
  · rw [List.getElem?_range hi] at h
    simp only [Option.map_some] at h
    by_cases hm : i ∈ ms
    · rw [if_pos hm] at h
      exact ⟨hm, hi, h⟩
    · rw [if_neg hm] at h
      cases h
  · rw [List.getElem?_eq_none (by simpa using hi)] at h
    cases h
theorem body_post {C : Cc} {π : List (Nat × V)} {ms : List Nat} {vs : List V} {w w' : WS} {e : Env} {σ' : St} (hms : ∀ j ∈ ms, ∀ v, vs[j]? = some v → (j, v) ∈ π) (m : Mt C π e σ' w') (f : Frm w w') :
    ∃ w2, Mt C [] (mask ms e vs.length) (vs.map some) w2 ∧ Frm w w2 ∧ w2.H = w'.H ∧ w2.G = w'.G ∧ ∀ i a, w2.fp i a → w'.fp i a := by
  refine ⟨{ w' with fp := fun i a => (at? (mask ms e vs.length) i).isSome = true ∧ w'.fp i a }, ⟨by unfold mask; simp, m.sub, m.tg, fun i b q => ?_, fun i q a z => ?_, fun i j a x y => m.dis i j a x.2 y.2, fun p h => by cases h⟩, ⟨f.g, fun a o h n => ?_, f.t⟩, rfl, rfl, fun i a z => z.2⟩
  · obtain ⟨h1, h2, h3⟩ := at_mask q
    obtain ⟨v, g1, g2⟩ := m.bok i b h3
    have hv : vs[i]? = some vs[i] := List.getElem?_eq_getElem h2
    have hp := m.pin _ (hms i h1 _ hv)
    simp only at hp
    rw [g1] at hp
    have ev : v = vs[i] := Option.some.inj (Option.some.inj hp)
    refine ⟨v, by rw [List.getElem?_map, hv, ev]; rfl, ?_⟩
    have e1 : (fun a => (at? (mask ms e vs.length) i).isSome = true ∧ w'.fp i a) = w'.fp i := by
      funext a
      exact propext ⟨fun z => z.2, fun z => ⟨by rw [q]; rfl, z⟩⟩
    show BOk C w'.G w'.H b v (fun a => (at? (mask ms e vs.length) i).isSome = true ∧ w'.fp i a)
    rw [e1]
    exact g2
  · have z1 : (at? (mask ms e vs.length) i).isSome = true := z.1
    rw [q] at z1
    cases z1
  · obtain ⟨h1, h2, h3⟩ := f.k a o h n
    exact ⟨h1, h2, fun i z => h3 i z.2⟩
section
variable {P : Program} {w : World} {K : PySem.W.Frag} {mg : Str → Option Value} {base : Heap}
theorem fn_okV {x qual : Str} {params : Arguments} {body : List Stmt} {scope : Scope} {dvs : List V} {kws : List (Str × V)} {f : Addr} {fd : FuncData} {N ps : List Str} {k : Nat} {ρ : Nat → Res} {g : FS} (ms : List Nat) (F : FunD K x qual params body scope dvs kws f fd) (S : FnScope N ps scope) (hpn : ps.length ≤ N.length)
    (hbody : ∀ (cdv : Value) (A : Around) (outer : List PySem.Env) (s : Shared) (H : Hp) (E : XK), Room k (A.deeper (PyProof.Rows.envOfC qual scope s.heap.objs.size f cdv)) →
      Vx (cxOf (L2.CX P w) P w K mg base N qual scope f cdv A outer s H E) (fun cls d _ H => E cls d H) → VSs (cxOf (L2.CX P w) P w K mg base N qual scope f cdv A outer s H E) ρ (fun cls d _ H => E cls d H) ms body g) (hk : 1 ≤ k) :
    FnG P w K mg base (k + 1) f fd ps (spV ⟨K, mg, ρ⟩ ps.length ms (runF g N.length)) := by
  refine fnG_of F S (fun vs H Q E h => h.1) (fun cdv A outer s H vs Q E hr hgd hsm h => ?_)
  obtain ⟨hl, bs, w0, rfl, m, h⟩ := h
  have V0 : Vx (cxOf (L2.CX P w) P w K mg base N qual scope f cdv A outer s w0.H E) (fun cls d _ H => E cls d H) := ⟨rfl, hr.mono hk, hgd, hsm, S.nd, takes_of rfl rfl rfl rfl, passes_of rfl⟩
  obtain ⟨t, pt, ss⟩ := hbody cdv A outer s w0.H E hr V0
  refine ⟨t, pt, ?_⟩
  have hbl : bs.length = vs.length := by have := m.len; rwa [List.length_map, List.length_map] at this
  -- the start
  let π : List (Nat × V) := (List.range vs.length).filterMap fun j => if j ∈ ms then vs[j]?.map fun v => (j, v) else none
  have hπ : ∀ p ∈ π, p.1 ∈ ms ∧ vs[p.1]? = some p.2 := fun p hp => by
    obtain ⟨j, hj, e⟩ := List.mem_filterMap.mp hp
    split at e
    · rename_i hm
      cases q : vs[j]? with
      | none => rw [q] at e; cases e
      | some v => rw [q] at e; cases e; exact ⟨hm, q⟩
    · cases e
  have hπ2 : ∀ j ∈ ms, ∀ v, vs[j]? = some v → (j, v) ∈ π := fun j hj v hv => by
    refine List.mem_filterMap.mpr ⟨j, List.mem_range.mpr (List.getElem?_eq_some_iff.mp hv).1, ?_⟩
    rw [if_pos hj, hv]
    rfl
  have m0 : Mt ⟨K, mg, ρ⟩ π (bs.map some ++ List.replicate (N.length - bs.length) none) (L2.start N vs) w0 := by
    unfold L2.start
    refine ⟨by simp [hbl], m.sub, m.tg, fun i b q => ?_, fun i q a z => ?_, m.dis, fun p hp => ?_⟩
    · have hb := at_app q
      obtain ⟨v, g1, g2⟩ := m.bok i b (by rw [at_map]; exact hb)
      refine ⟨v, ?_, g2⟩
      have hi : i < vs.length := by rw [← hbl]; exact (List.getElem?_eq_some_iff.mp hb).1
      rw [List.getElem?_append_left (by simpa using hi)]
      exact g1
    · refine m.non i ?_ a z
      rw [at_map]
      cases qb : bs[i]? with
      | none => rfl
      | some b =>
        unfold at? at q
        have hi := (List.getElem?_eq_some_iff.mp qb).1
        rw [List.getElem?_append_left (by simpa using hi), List.getElem?_map, qb] at q
        cases q
    · obtain ⟨h1, h2⟩ := hπ p hp
      have hi := (List.getElem?_eq_some_iff.mp h2).1
      rw [List.getElem?_append_left (by simpa using hi), List.getElem?_map, h2]
      rfl
  refine ss π _ _ w0 _ (fun p hp => (hπ p hp).1) m0 ?_
  unfold runF at h
  cases q : g (bs.map some ++ List.replicate (N.length - bs.length) none) with
  | none => rw [q] at h; exact h.elim
  | some x =>
    rw [q] at h
    cases x with
    | nx e =>
      intro σ' w' m' f'
      obtain ⟨w2, m2, f2, eH, eG, hl2⟩ := body_post hπ2 m' f'
      rw [← eH]
      exact h .non w2 m2 f2 (.fr .non)
    | rt b e =>
      intro v σ' w' m' f' k'
      obtain ⟨w2, m2, f2, eH, eG, hl2⟩ := body_post hπ2 m' f'
      rw [← eH]
      refine h v w2 m2 f2 ?_
      obtain ⟨fp, k1, k2⟩ := k'
      exact ⟨fp, by rw [eG, eH]; exact k1, fun a ha => ⟨(k2 a ha).1, fun i z => (k2 a ha).2 i (hl2 i a z)⟩⟩
    | bk e => exact h.elim
    | ct e => exact h.elim
    | ex c e =>
      intro σ' w' A hA m' f'
      obtain ⟨w2, m2, f2, eH, eG, hl2⟩ := body_post hπ2 m' f'
      rw [← eH]
      exact h w2 A hA m2 f2
end
end
end VL
set_option maxRecDepth 100000
namespace VL
open PySem L2
section
variable {X : Cx} {ρ : Nat → Res} {W : WX} {a b c : Expr} {es : List Expr} {pos p : Pos} {fa fb fc : FE} {as_ : FA} {C : Cc} {π : List (Nat × V)} {e e1 e2 : Env} {σ : St} {w w0 w1 w2 : WS}
theorem va_F (ha : VE X ρ W a fa) (hr : VA X ρ W es as_) (hs : starEach (a :: es) X.env = (false, eval a X.env) :: starEach es X.env := by rfl) : VA X ρ W (a :: es) (aF fa as_) := by
  obtain ⟨t, p, s⟩ := ha
  obtain ⟨t2, p2, s2⟩ := hr
  refine ⟨_, pa_cons p p2 hs, fun π e σ w Q m h => ?_⟩
  refine s π e σ w _ m (h.bnd fun o1 e1 v1 w1 m1 f1 k1 h1 => ?_)
  cases q : fzB e1 o1 with
  | none => rw [q] at h1; exact h1.elim
  | some pr =>
    rw [q] at h1
    simp only [Option.bind_some] at h1
    obtain ⟨wf, mf, ff, eH, hb⟩ := fzB_sound (e' := pr.2) m1 f1 k1 q
    rw [← eH]
    refine s2 π pr.2 σ wf _ mf ((h1.from ff).bnd fun os e3 vs w3 m3 f3 k3 h3 => ?_)
    refine h3.from f3 (v1 :: vs) w3 m3 (.refl _) (.cons ?_ (paired_base ff k3))
    exact ⟨fun _ => False, hb.mono f3.g (fun _ z => z.elim), fun _ z => z.elim⟩
theorem va_M (i : Nat) {x : Str} {px : Pos} (hr : VA X ρ W es as_) (hN : X.N[i]? = some x := by rfl) (hv : Vis X.env.scope x := by first | exact Or.inl rfl | exact Or.inr (Or.inl rfl) | exact Or.inr (Or.inr rfl)) (hd : (x == ("__debug__" : Str)) = false := by decide)
    (hcd : (x == ("__classdict__" : Str)) = false := by decide) (hs : starEach (.Name x px :: es) X.env = (false, eval (.Name x px) X.env) :: starEach es X.env := by rfl) : VA X ρ W (.Name x px :: es) (aM i as_) := by
  obtain ⟨t2, p2, s2⟩ := hr
  refine ⟨_, pa_cons (pe_var hN hv hd hcd) p2 hs, fun π e σ w Q m h => ?_⟩
  unfold aM at h
  cases q : at? e i with
  | none => rw [q] at h; exact h.elim
  | some bb =>
    rw [q] at h
    obtain ⟨v, h1, h2⟩ := m.bok i bb q
    refine ⟨v, h1, ?_⟩
    refine s2 π e σ w _ m (Post.bnd (rel' := fun w' os vs => Paired (OOk (cc X ρ) σ w w') os vs) h fun os e3 vs w3 m3 f3 k3 h3 => ?_)
    exact h3.from f3 (v :: vs) w3 m3 (.refl _) (.cons h1 k3)
theorem va_P (ha : VE X ρ W a fa) (hr : VA X ρ W es as_) (hs : starEach (a :: es) X.env = (false, eval a X.env) :: starEach es X.env := by rfl) : VA X ρ W (a :: es) (aP fa as_) := by
  obtain ⟨t, p, s⟩ := ha
  obtain ⟨t2, p2, s2⟩ := hr
  refine ⟨_, pa_cons p p2 hs, fun π e σ w Q m h => ?_⟩
  refine s π e σ w _ m (h.bnd fun o1 e1 v1 w1 m1 f1 k1 h1 => ?_)
  cases o1 with
  | s i =>
    refine s2 π e1 σ w1 _ m1 ((h1.from f1).bnd fun os e3 vs w3 m3 f3 k3 h3 => ?_)
    exact h3.from f3 (v1 :: vs) w3 m3 (.refl _) (.cons k1 (paired_base f1 k3))
  | b bb =>
    simp only at h1
    cases q : fzB e1 (.b bb) with
    | none => rw [q] at h1; exact h1.elim
    | some pr =>
      rw [q] at h1
      simp only [Option.bind_some] at h1
      obtain ⟨wf, mf, ff, eH, hb⟩ := fzB_sound (e' := pr.2) m1 f1 k1 q
      rw [← eH]
      refine s2 π pr.2 σ wf _ mf ((h1.from ff).bnd fun os e3 vs w3 m3 f3 k3 h3 => ?_)
      refine h3.from f3 (v1 :: vs) w3 m3 (.refl _) (.cons ?_ (paired_base ff k3))
      exact ⟨fun _ => False, hb.mono f3.g (fun _ z => z.elim), fun _ z => z.elim⟩
/-- a def that may be called -/
structure Cal (X : Cx) (ρ : Nat → Res) (x : Str) (n : Nat) (ms : List Nat) (F : Fn) (k : Nat) : Prop where
  ex : ∃ f fd ps, FnG X.prog X.w X.K X.mg X.base k f fd ps (spV (cc X ρ) n ms F) ∧ X.mg x = some (.ref f) ∧ PySem.W.keepIn X.K (.ref f) = true ∧ Binds X.K fd ps []
/-- what is owned by a slot that is not lent has no owner among the others -/
theorem paired_get {α β : Type} {R : α → β → Prop} : ∀ {as : List α} {bs : List β} {i : Nat} {x : α}, Paired R as bs → as[i]? = some x → ∃ y, bs[i]? = some y ∧ R x y
  | _, _, _, _, .nil, e => by simp at e
  | _, _, 0, _, .cons r _, e => by simp at e; subst e; exact ⟨_, rfl, r⟩
  | _, _, i + 1, x, .cons _ t, e => by
    obtain ⟨y, h1, h2⟩ := paired_get (i := i) (x := x) t (by simpa using e)
    exact ⟨y, by simpa using h1, h2⟩
theorem paired_length {α β : Type} {R : α → β → Prop} : ∀ {as : List α} {bs : List β}, Paired R as bs → as.length = bs.length
  | _, _, .nil => rfl
  | _, _, .cons _ t => by simp [paired_length t]
theorem bindO_get {e : Env} : ∀ {os : List O} {bs : List B}, bindO e os = some bs → bs.length = os.length ∧ ∀ (j : Nat) (o : O), os[j]? = some o → match o with
    | .b x => bs[j]? = some x
    | .s i => ∃ x, at? e i = some x ∧ bs[j]? = some x
  | [], bs, h => by cases h; exact ⟨rfl, fun j o hj => by simp at hj⟩
  | .b x :: os, bs, h => by
    unfold bindO at h
    cases q : bindO e os with
    | none => rw [q] at h; cases h
    | some cs =>
      rw [q] at h
      cases h
      obtain ⟨h1, h2⟩ := bindO_get q
      refine ⟨by simp [h1], fun j o hj => ?_⟩
      cases j with
      | zero => simp at hj; subst hj; rfl
      | succ j =>
        have := h2 j o (by simpa using hj)
        cases o with
        | b y => simpa using this
        | s i => obtain ⟨y, g1, g2⟩ := this; exact ⟨y, g1, by simpa using g2⟩
  | .s i :: os, bs, h => by
    unfold bindO at h
    cases qa : at? e i with
    | none => rw [qa] at h; cases h
    | some x =>
      rw [qa] at h
      cases q : bindO e os with
      | none => rw [q] at h; cases h
      | some cs =>
        rw [q] at h
        cases h
        obtain ⟨h1, h2⟩ := bindO_get q
        refine ⟨by simp [h1], fun j o hj => ?_⟩
        cases j with
        | zero => simp at hj; subst hj; exact ⟨x, qa, rfl⟩
        | succ j =>
          have := h2 j o (by simpa using hj)
          cases o with
          | b y => simpa using this
          | s i => obtain ⟨y, g1, g2⟩ := this; exact ⟨y, g1, by simpa using g2⟩
theorem putBack_length : ∀ (mi : List (Nat × Nat)) (e : Env), (putBack e2 mi e).length = e.length
  | [], e => rfl
  | (j, i) :: r, e => by
    show (putBack e2 r (e.set i (at? e2 j))).length = e.length
    rw [putBack_length r, List.length_set]
theorem putBack_out : ∀ {mi : List (Nat × Nat)} {e : Env} {i : Nat}, (∀ j, (j, i) ∉ mi) → at? (putBack e2 mi e) i = at? e i
  | [], e, i, h => rfl
  | (j0, i0) :: r, e, i, h => by
    show at? (putBack e2 r (e.set i0 (at? e2 j0))) i = at? e i
    rw [putBack_out fun j hj => h j (List.mem_cons_of_mem _ hj)]
    exact at_set_ne fun z => h j0 (by rw [z]; exact List.mem_cons_self)
theorem putBack_in : ∀ {mi : List (Nat × Nat)} {e : Env} {i j : Nat}, (mi.map (·.2)).Nodup → (j, i) ∈ mi → i < e.length → at? (putBack e2 mi e) i = at? e2 j
  | (j0, i0) :: r, e, i, j, nd, h, hi => by
    show at? (putBack e2 r (e.set i0 (at? e2 j0))) i = at? e2 j
    rw [List.map_cons, List.nodup_cons] at nd
    rcases List.mem_cons.mp h with q | q
    · cases q
      rw [putBack_out fun k hk => nd.1 (List.mem_map.mpr ⟨(k, i0), hk, rfl⟩)]
      exact at_set_lt hi
    · exact putBack_in nd.2 q (by rw [List.length_set]; exact hi)
theorem at_lt {e : Env} {i : Nat} {b : B} (h : at? e i = some b) : i < e.length := by
  unfold at? at h
  cases q : e[i]? with
  | none => rw [q] at h; cases h
  | some y => exact (List.getElem?_eq_some_iff.mp q).1
def SlOk (mi : List (Nat × Nat)) (k : Nat) : O → Prop
  | .s i => (k, i) ∈ mi
  | .b x => ∀ (C : Cc) (G H : Hp) (v : V) (fp : Addr → Prop), BOk C G H x v fp → ∀ a, ¬ fp a
theorem slotsOk_s {mi : List (Nat × Nat)} : ∀ {os : List O} {k : Nat}, slotsOk mi k os = true → ∀ (j : Nat) (o : O), os[j]? = some o → SlOk mi (k + j) o
  | [], k, h, j, o, hj => by simp at hj
  | .s i :: os, k, h, j, o, hj => by
    unfold slotsOk at h
    rw [Bool.and_eq_true] at h
    cases j with
    | zero => simp at hj; subst hj; exact (of_decide_eq_true h.1 : (k, i) ∈ mi)
    | succ j =>
      have := slotsOk_s h.2 j o (by simpa using hj)
      rwa [show k + (j + 1) = k + 1 + j from by omega]
  | .b x :: os, k, h, j, o, hj => by
    unfold slotsOk at h
    rw [Bool.and_eq_true] at h
    cases j with
    | zero =>
      simp at hj
      subst hj
      intro C G H v fp hb
      cases x with
      | fr d => exact hb.2
      | ex d => exact hb.2
      | sc d => exact hb.2
      | ow d => exact absurd h.1 (by simp)
      | od d => exact absurd h.1 (by simp)
      | rs n d => exact absurd h.1 (by simp)
      | tr t => exact absurd h.1 (by simp)
    | succ j =>
      have := slotsOk_s h.2 j o (by simpa using hj)
      rwa [show k + (j + 1) = k + 1 + j from by omega]
theorem BOk.noFp {x : B} {G H : Hp} {v : V} {fp : Addr → Prop} (h : BOk C G H x v fp) (n : ∀ a, ¬ fp a) : BOk C G H x v fun _ => False := by
  have e1 : fp = fun _ => False := by funext a; exact propext ⟨fun z => n a z, fun z => z.elim⟩
  rw [← e1]; exact h
/-- the world as the callee has it -/
def WS.lend (w : WS) (mi : List (Nat × Nat)) : WS := { w with fp := fun j a => ∃ i, (j, i) ∈ mi ∧ w.fp i a }
/-- and behind the call -/
def WS.back (w w' : WS) (mi : List (Nat × Nat)) : WS := { w' with fp := fun i a => (∃ j, (j, i) ∈ mi ∧ w'.fp j a) ∨ ((∀ j, (j, i) ∉ mi) ∧ w.fp i a) }
theorem miOk_at {mi : List (Nat × Nat)} {os : List O} (h : miOk mi os = true) {j i : Nat} (hm : (j, i) ∈ mi) : os[j]? = some (.s i) := by
  have z := List.all_eq_true.mp h _ hm
  split at z
  · rename_i i' q
    rw [q]
    have := beq_iff_eq.mp z
    rw [this]
  · cases z
theorem lend_mt {mi : List (Nat × Nat)} {os : List O} {bs : List B} {vs : List V} (m : Mt C π e σ w) (n2 : (mi.map (·.2)).Nodup) (hs : slotsOk mi 0 os = true) (hmi : miOk mi os = true) (hb : bindO e os = some bs) (r : Paired (OOk C σ w0 w) os vs) :
    Mt C [] (bs.map some) (vs.map some) (w.lend mi) := by
  obtain ⟨hl, hg⟩ := bindO_get hb
  have hl2 := paired_length r
  have pos : ∀ {j i}, (j, i) ∈ mi → os[j]? = some (.s i) := fun h => miOk_at hmi h
  have uniq : ∀ {j i i'}, (j, i) ∈ mi → (j, i') ∈ mi → i = i' := fun {j i i'} h h' => by
    have h1 := pos h
    rw [pos h'] at h1
    cases h1
    rfl
  have uniq2 : ∀ {j j' i}, (j, i) ∈ mi → (j', i) ∈ mi → j = j' := fun {j j' i} h h' => by
    have go : ∀ l : List (Nat × Nat), (l.map (·.2)).Nodup → (j, i) ∈ l → (j', i) ∈ l → j = j' := by
      intro l
      induction l with
      | nil => intro _ h; cases h
      | cons p l ih =>
        intro nd h h'
        rw [List.map_cons, List.nodup_cons] at nd
        rcases List.mem_cons.mp h with q | q
        · rcases List.mem_cons.mp h' with q' | q'
          · rw [← q] at q'; cases q'; rfl
          · exact absurd (List.mem_map.mpr ⟨_, q', by rw [← q]⟩) nd.1
        · rcases List.mem_cons.mp h' with q' | q'
          · exact absurd (List.mem_map.mpr ⟨_, q, by rw [← q']⟩) nd.1
          · exact ih nd.2 q q'
    exact go mi n2 h h'
  refine ⟨by rw [List.length_map, List.length_map, hl, hl2], m.sub, m.tg, fun j b q => ?_, fun j q a z => ?_, fun j j' a x y => ?_, fun p h => by cases h⟩
  · rw [at_map] at q
    have hj : j < os.length := by rw [← hl]; exact (List.getElem?_eq_some_iff.mp q).1
    have ho : os[j]? = some os[j] := List.getElem?_eq_getElem hj
    obtain ⟨v, hv, ov⟩ := paired_get r ho
    refine ⟨v, by rw [List.getElem?_map, hv]; rfl, ?_⟩
    have g := hg j _ ho
    have s := slotsOk_s hs j _ ho
    cases qo : os[j] with
    | b x =>
      rw [qo] at g s ov
      simp only at g
      rw [q] at g
      cases g
      obtain ⟨fp, b1, b2⟩ := ov
      have b3 := b1.noFp (s _ _ _ _ _ b1)
      have e1 : (w.lend mi).fp j = fun _ => False := by
        funext a
        refine propext ⟨fun z => ?_, fun z => z.elim⟩
        obtain ⟨i, hi, _⟩ := z
        have h1 := pos hi
        rw [ho, qo] at h1
        cases h1
      rw [e1]
      exact b3
    | s i =>
      rw [qo] at g s ov
      simp only [Nat.zero_add] at g s
      have s : (j, i) ∈ mi := s
      obtain ⟨x, g1, g2⟩ := g
      rw [q] at g2
      cases g2
      obtain ⟨u, b1, b2⟩ := m.bok i b g1
      have ov' : σ[i]? = some (some v) := ov
      rw [ov'] at b1
      cases b1
      have e1 : (w.lend mi).fp j = w.fp i := by
        funext a
        exact propext ⟨fun ⟨i', h1, h2⟩ => by rw [uniq s h1]; exact h2, fun z => ⟨i, s, z⟩⟩
      rw [e1]
      exact b2
  · rw [at_map] at q
    obtain ⟨i, hi, hz⟩ := z
    have h1 := pos hi
    rw [List.getElem?_eq_none_iff, hl] at q
    rw [List.getElem?_eq_none q] at h1
    cases h1
  · obtain ⟨i, h1, h2⟩ := x
    obtain ⟨i', h3, h4⟩ := y
    have := m.dis i i' a h2 h4
    subst this
    exact uniq2 h1 h3
theorem back_mt {mi : List (Nat × Nat)} {os : List O} {vs : List V} {w' : WS} {k : Nat} (m : Mt C π e σ w) (n2 : (mi.map (·.2)).Nodup) (hmi : miOk mi os = true) (r : Paired (OOk C σ w0 w) os vs) (f : Frm (w.lend mi) w')
    (m' : Mt C [] (mask (mi.map (·.1)) e2 k) (vs.map some) w') (hk : k = vs.length) : Mt C π (putBack e2 mi e) σ (w.back w' mi) ∧ Frm w (w.back w' mi) := by
  have pos : ∀ {j i}, (j, i) ∈ mi → os[j]? = some (.s i) := fun h => miOk_at hmi h
  have notLent : ∀ {i a}, (∀ j, (j, i) ∉ mi) → w.fp i a → (∃ o, w.H a = some o ∧ w.G a = none) ∧ ∀ j, ¬ (w.lend mi).fp j a := fun {i a} h1 h2 => by
    obtain ⟨h3, o, h4⟩ := m.own h2
    refine ⟨⟨o, h4, h3⟩, fun j ⟨i', h5, h6⟩ => ?_⟩
    have := m.dis i i' a h2 h6
    subst this
    exact h1 j h5
  have kept : ∀ {i a}, (∀ j, (j, i) ∉ mi) → w.fp i a → w'.H a = w.H a ∧ w'.G a = w.G a ∧ ∀ j, ¬ w'.fp j a := fun {i a} h1 h2 => by
    obtain ⟨⟨o, h3, h4⟩, h5⟩ := notLent h1 h2
    obtain ⟨g1, g2, g3⟩ := f.k a o h3 h5
    exact ⟨g1.trans h3.symm, g2, g3⟩
  have uniq2 : ∀ {j j' i}, (j, i) ∈ mi → (j', i) ∈ mi → j = j' := fun {j j' i} h h' => by
    have go : ∀ l : List (Nat × Nat), (l.map (·.2)).Nodup → (j, i) ∈ l → (j', i) ∈ l → j = j' := by
      intro l
      induction l with
      | nil => intro _ h; cases h
      | cons p l ih =>
        intro nd h h'
        rw [List.map_cons, List.nodup_cons] at nd
        rcases List.mem_cons.mp h with q | q
        · rcases List.mem_cons.mp h' with q' | q'
          · rw [← q] at q'; cases q'; rfl
          · exact absurd (List.mem_map.mpr ⟨_, q', by rw [← q]⟩) nd.1
        · rcases List.mem_cons.mp h' with q' | q'
          · exact absurd (List.mem_map.mpr ⟨_, q, by rw [← q']⟩) nd.1
          · exact ih nd.2 q q'
    exact go mi n2 h h'
  have uniq : ∀ {j i i'}, (j, i) ∈ mi → (j, i') ∈ mi → i = i' := fun {j i i'} h h' => by
    have h1 := pos h
    rw [pos h'] at h1
    cases h1
    rfl
  refine ⟨⟨by rw [putBack_length]; exact m.len, m'.sub, m'.tg, fun i b q => ?_, fun i q a z => ?_, fun i i' a x y => ?_, m.pin⟩, ⟨f.g, fun a o h n => ?_, f.t⟩⟩
  · by_cases hm : ∃ j, (j, i) ∈ mi
    · obtain ⟨j, hj⟩ := hm
      have ho := pos hj
      obtain ⟨v, hv, ov⟩ := paired_get r ho
      have hi : i < e.length := by rw [← putBack_length (e2 := e2) mi e]; exact at_lt q
      rw [putBack_in n2 hj hi] at q
      have hjv := (List.getElem?_eq_some_iff.mp hv).1
      have q2 : at? (mask (mi.map (·.1)) e2 k) j = some b := by
        unfold mask
        unfold at?
        rw [List.getElem?_map, List.getElem?_range (by rw [hk]; exact hjv)]
        simp only [Option.map_some]
        rw [if_pos (List.mem_map.mpr ⟨(j, i), hj, rfl⟩)]
        exact q
      obtain ⟨u, g1, g2⟩ := m'.bok j b q2
      rw [List.getElem?_map, hv] at g1
      have ev : v = u := Option.some.inj (Option.some.inj g1)
      subst ev
      have ov' : σ[i]? = some (some v) := ov
      refine ⟨v, ov', ?_⟩
      have e1 : (w.back w' mi).fp i = w'.fp j := by
        funext a
        refine propext ⟨fun z => ?_, fun z => .inl ⟨j, hj, z⟩⟩
        rcases z with ⟨j', h1, h2⟩ | ⟨h1, _⟩
        · rw [uniq2 hj h1]; exact h2
        · exact absurd hj (h1 j)
      rw [e1]
      exact g2
    · have hn : ∀ j, (j, i) ∉ mi := fun j hj => hm ⟨j, hj⟩
      rw [putBack_out hn] at q
      obtain ⟨v, g1, g2⟩ := m.bok i b q
      refine ⟨v, g1, ?_⟩
      have e1 : (w.back w' mi).fp i = w.fp i := by
        funext a
        refine propext ⟨fun z => ?_, fun z => .inr ⟨hn, z⟩⟩
        rcases z with ⟨j', h1, h2⟩ | ⟨h1, h2⟩
        · exact absurd h1 (hn j')
        · exact h2
      rw [e1]
      exact g2.mono f.g fun a ha => ⟨(kept hn ha).1, (kept hn ha).2.1⟩
  · rcases z with ⟨j, h1, h2⟩ | ⟨h1, h2⟩
    · by_cases hi : i < e.length
      · rw [putBack_in n2 h1 hi] at q
        refine m'.non j ?_ a h2
        unfold mask
        unfold at?
        by_cases hjk : j < k
        · rw [List.getElem?_map, List.getElem?_range hjk]
          simp only [Option.map_some]
          rw [if_pos (List.mem_map.mpr ⟨(j, i), h1, rfl⟩)]
          exact q
        · rw [List.getElem?_eq_none (by simpa using hjk)]
      · -- no such slot
        obtain ⟨v, hv, ov⟩ := paired_get r (pos h1)
        have ov' : σ[i]? = some (some v) := ov
        have := (List.getElem?_eq_some_iff.mp ov').1
        rw [← m.len] at this
        exact absurd this hi
    · rw [putBack_out h1] at q
      exact m.non i q a h2
  · rcases x with ⟨j, h1, h2⟩ | ⟨h1, h2⟩
    · rcases y with ⟨j', h3, h4⟩ | ⟨h3, h4⟩
      · have := m'.dis j j' a h2 h4
        subst this
        exact uniq h1 h3
      · exact absurd h2 ((kept h3 h4).2.2 j)
    · rcases y with ⟨j', h3, h4⟩ | ⟨h3, h4⟩
      · exact absurd h4 ((kept h1 h2).2.2 j')
      · exact m.dis i i' a h2 h4
  · have hn : ∀ j, ¬ (w.lend mi).fp j a := fun j ⟨i, _, z⟩ => n i z
    obtain ⟨h1, h2, h3⟩ := f.k a o h hn
    refine ⟨h1, h2, fun i z => ?_⟩
    rcases z with ⟨j, _, z⟩ | ⟨_, z⟩
    · exact h3 j z
    · exact n i z
theorem ve_call {x : Str} {n k : Nat} {mi : List (Nat × Nat)} {F : Fn} (V0 : Vx X W) (c : Cal X ρ x n (mi.map (·.1)) F k) (hr : Room k X.A) (ha : VA X ρ W (a :: es) as_) (n2 : (mi.map (·.2)).Nodup := by decide) (hg : Gl X x := by rfl)
    (hdb : (x == ("__debug__" : Str)) = false := by decide) (he : starEach (a :: es) X.env = (false, eval a X.env) :: starEach es X.env := by rfl) (hpl : (backTo pos (starEach es X.env)).any (·.1) = false := by rfl) :
    VE X ρ W (.Call (.Name x p) (a :: es) [] pos) (fCall F n mi as_) := by
  obtain ⟨f, fd, ps, FO, gm, gk, gb⟩ := c.ex
  obtain ⟨t, pa, s⟩ := ha
  refine ⟨_, pe_callG FO hr V0.gd V0.sm hg gm gk gb (fun σ => passAt V0.tk σ) pa hdb he hpl, fun π e σ w Q m h => ?_⟩
  refine s π e σ w _ m (h.bnd fun os e1 vs w1 m1 f1 k1 h1 => ?_)
  have h2 := h1.from f1
  split at h2
  case isFalse => exact h2.elim
  case isTrue hok =>
    rw [Bool.and_eq_true, Bool.and_eq_true] at hok
    obtain ⟨hok, hlen⟩ := hok
    have hlen := beq_iff_eq.mp hlen
    cases qb : bindO e1 os with
    | none => rw [qb] at h2; exact h2.elim
    | some bs =>
      rw [qb] at h2
      simp only [Option.bind_some] at h2
      refine ⟨?_, bs, w1.lend mi, rfl, lend_mt m1 n2 hok.1 hok.2 qb k1, ?_⟩
      · rw [← paired_length k1]; exact hlen
      · cases qF : F bs with
        | none => rw [qF] at h2; exact h2.elim
        | some r =>
          rw [qF] at h2
          cases r with
          | ret b e2 =>
            intro v w' m' f' k'
            obtain ⟨g1, g2⟩ := back_mt m1 n2 hok.2 k1 f' m' rfl
            refine h2 v (w1.back w' mi) g1 g2 ?_
            obtain ⟨fp, b1, b2⟩ := k'
            refine ⟨fp, b1, fun a ha => ⟨f1.back ?_, fun i z => ?_⟩⟩
            · rcases (b2 a ha).1 with q | ⟨j, i, q1, q2⟩
              · exact .inl q
              · exact .inr ⟨i, q2⟩
            · rcases z with ⟨j, _, z⟩ | ⟨hn, z⟩
              · exact (b2 a ha).2 j z
              · obtain ⟨_, o, ho⟩ := m1.own z
                rcases (b2 a ha).1 with q | ⟨j, i', q1, q2⟩
                · have q' : w1.H a = none := q
                  rw [ho] at q'; cases q'
                · have := m1.dis i i' a z q2
                  subst this
                  exact hn j q1
          | ex c e2 =>
            intro w' A hA m' f'
            obtain ⟨g1, g2⟩ := back_mt m1 n2 hok.2 k1 f' m' rfl
            exact h2 (w1.back w' mi) A hA g1 g2
/-- the world in which what the arguments' slots own is frozen -/
noncomputable def WS.lent (w : WS) (os : List O) : WS := by
  classical
  exact { G := fun a => if ∃ i, O.s i ∈ os ∧ w.fp i a then w.H a else w.G a, H := w.H, fp := fun _ _ => False }
theorem lent_G (m : Mt C π e σ w) {os : List O} : Same w.G (w.lent os).G := fun a o h => by
  classical
  show (if ∃ i, O.s i ∈ os ∧ w.fp i a then w.H a else w.G a) = some o
  by_cases z : ∃ i, O.s i ∈ os ∧ w.fp i a
  · obtain ⟨i, _, z⟩ := z
    obtain ⟨h1, _⟩ := m.own z
    rw [h] at h1; cases h1
  · rw [if_neg z]; exact h
theorem lent_sub (m : Mt C π e σ w) {os : List O} : Same (w.lent os).G w.H := fun a o h => by
  classical
  have h' : (if ∃ i, O.s i ∈ os ∧ w.fp i a then w.H a else w.G a) = some o := h
  by_cases z : ∃ i, O.s i ∈ os ∧ w.fp i a
  · rw [if_pos z] at h'; exact h'
  · rw [if_neg z] at h'; exact m.sub a o h'
theorem lent_at {os : List O} {i : Nat} {a : Addr} (h : O.s i ∈ os) (h2 : w.fp i a) : (w.lent os).G a = w.H a := by
  classical
  show (if ∃ i, O.s i ∈ os ∧ w.fp i a then w.H a else w.G a) = w.H a
  rw [if_pos ⟨i, h, h2⟩]
theorem lent_bok (m : Mt C π e σ w) {os : List O} {i : Nat} {x y : B} {v : V} (h : O.s i ∈ os) (hx : BOk C w.G w.H x v (w.fp i)) (hy : lent x = some y) : BOk C (w.lent os).G w.H y v fun _ => False := by
  have g := lent_G (os := os) m
  cases x with
  | fr d => cases hy; exact ⟨hx.1.mono g, fun _ z => z⟩
  | ow ds =>
    cases hy
    obtain ⟨p, xs, rfl, h1, h2, h3, h4⟩ := hx
    have e1 := lent_at (os := os) h ((h4 p).mpr rfl)
    exact ⟨.lst (e1.trans h2) (h3.mono g), fun _ z => z⟩
  | od ds =>
    cases hy
    obtain ⟨p, xs, rfl, h1, h2, h3, h5, h4⟩ := hx
    have e1 := lent_at (os := os) h ((h4 p).mpr rfl)
    exact ⟨.dic (e1.trans h2) h3 (h5.mono g), fun _ z => z⟩
  | ex c =>
    cases hy
    obtain ⟨⟨p, A, h1, h2, h3⟩, _⟩ := hx
    exact ⟨⟨p, A, h1, h2, g _ _ h3⟩, fun _ z => z⟩
  | sc ns =>
    cases hy
    obtain ⟨⟨p, h1, h2⟩, _⟩ := hx
    exact ⟨⟨p, h1, g.seq h2⟩, fun _ z => z⟩
  | rs n d => cases hy
  | tr t =>
    have hy' : (t.dat.map B.fr) = some y := hy
    cases qd : t.dat with
    | none => rw [qd] at hy'; cases hy'
    | some d =>
      rw [qd] at hy'
      cases hy'
      obtain ⟨as, g1, g2, g3⟩ := hx
      exact ⟨g1.rp g (fun a ha => lent_at (os := os) h ((g3 a).mpr ha)) qd, fun _ z => z⟩
theorem lent_mt (m : Mt C π e σ w) {os' : List O} : ∀ {os : List O} {bs : List B} {vs : List V}, (∀ o ∈ os, o ∈ os') → flatO os = true → lendO e os = some bs → Paired (OOk C σ w0 w) os vs →
    bs.length = vs.length ∧ ∀ (j : Nat) (b : B), bs[j]? = some b → ∃ v, vs[j]? = some v ∧ BOk C (w.lent os').G w.H b v fun _ => False
  | [], bs, _, _, _, h, .nil => by cases h; exact ⟨rfl, fun j b q => by simp at q⟩
  | .b x :: os, bs, v :: vs, hs, hf, h, .cons r t => by
    unfold lendO at h
    unfold flatO at hf
    rw [Bool.and_eq_true] at hf
    cases q : lendO e os with
    | none => rw [q] at h; cases h
    | some cs =>
      rw [q] at h
      cases h
      obtain ⟨h1, h2⟩ := lent_mt m (fun o ho => hs o (List.mem_cons_of_mem _ ho)) hf.2 q t
      refine ⟨by simp [h1], fun j b qb => ?_⟩
      cases j with
      | zero =>
        simp at qb
        subst qb
        refine ⟨v, rfl, ?_⟩
        obtain ⟨fp, b1, b2⟩ := r
        have b3 : BOk C w.G w.H x v fun _ => False := by
          cases x with
          | fr d => exact ⟨b1.1, fun _ z => z⟩
          | ex d => exact ⟨b1.1, fun _ z => z⟩
          | sc d => exact ⟨b1.1, fun _ z => z⟩
          | ow d => exact absurd hf.1 (by simp)
          | od d => exact absurd hf.1 (by simp)
          | rs n d => exact absurd hf.1 (by simp)
          | tr t => exact absurd hf.1 (by simp)
        exact b3.mono (lent_G m) (fun _ z => z.elim)
      | succ j => exact h2 j b (by simpa using qb)
  | .s i :: os, bs, v :: vs, hs, hf, h, .cons r t => by
    unfold lendO at h
    cases qa : (at? e i).bind lent with
    | none => rw [qa] at h; cases h
    | some y =>
      rw [qa] at h
      cases q : lendO e os with
      | none => rw [q] at h; cases h
      | some cs =>
        rw [q] at h
        cases h
        obtain ⟨h1, h2⟩ := lent_mt m (fun o ho => hs o (List.mem_cons_of_mem _ ho)) (by unfold flatO at hf; exact hf) q t
        refine ⟨by simp [h1], fun j b qb => ?_⟩
        cases j with
        | zero =>
          simp at qb
          subst qb
          refine ⟨v, rfl, ?_⟩
          cases qx : at? e i with
          | none => rw [qx] at qa; cases qa
          | some x =>
            rw [qx] at qa
            obtain ⟨u, g1, g2⟩ := m.bok i x qx
            have r' : σ[i]? = some (some v) := r
            rw [r'] at g1
            cases g1
            exact lent_bok m (hs _ List.mem_cons_self) g2 qa
        | succ j => exact h2 j b (by simpa using qb)
theorem flat_rp {K : PySem.W.Frag} {G G' : Hp} {v : V} {d : PyData} (h : Rp K G v d) (hf : isFlat d = true) : Rp K G' v d := by
  cases h with
  | non => exact .non
  | bl b => exact .bl b
  | int i => exact .int i
  | str x => exact .str x
  | lst _ _ => cases hf
  | tup _ _ => cases hf
  | dic _ _ _ => cases hf
theorem ve_callP {x : Str} {n k : Nat} {F : Fn} (V0 : Vx X W) (c : Cal X ρ x n [] F k) (hr : Room k X.A) (ha : VA X ρ W (a :: es) as_) (hg : Gl X x := by rfl)
    (hdb : (x == ("__debug__" : Str)) = false := by decide) (he : starEach (a :: es) X.env = (false, eval a X.env) :: starEach es X.env := by rfl) (hpl : (backTo pos (starEach es X.env)).any (·.1) = false := by rfl) :
    VE X ρ W (.Call (.Name x p) (a :: es) [] pos) (fCallP F n as_) := by
  obtain ⟨f, fd, ps, FO, gm, gk, gb⟩ := c.ex
  obtain ⟨t, pa, s⟩ := ha
  refine ⟨_, pe_callG FO hr V0.gd V0.sm hg gm gk gb (fun σ => passAt V0.tk σ) pa hdb he hpl, fun π e σ w Q m h => ?_⟩
  refine s π e σ w _ m (h.bnd fun os e1 vs w1 m1 f1 k1 h1 => ?_)
  have h2 := h1.from f1
  split at h2
  case isFalse => exact h2.elim
  case isTrue hfo =>
  cases qb : lendO e1 os with
  | none => rw [qb] at h2; exact h2.elim
  | some bs =>
    rw [qb] at h2
    simp only [Option.bind_some] at h2
    split at h2
    case isFalse => exact h2.elim
    case isTrue hn =>
      obtain ⟨hl, hb⟩ := lent_mt (os' := os) m1 (fun o ho => ho) hfo qb k1
      have mc : Mt (cc X ρ) [] (bs.map some) (vs.map some) (w1.lent os) := ⟨by simp [hl], lent_sub m1, m1.tg.more (lent_G m1), fun i b q => by
        rw [at_map] at q
        obtain ⟨v, g1, g2⟩ := hb i b q
        exact ⟨v, by rw [List.getElem?_map, g1]; rfl, g2⟩, fun i q a z => z, fun i j a z _ => z.elim, fun p h => by cases h⟩
      refine ⟨hl.symm.trans hn, bs, w1.lent os, rfl, mc, ?_⟩
      -- behind it: all owned as before
      have back : ∀ {w' : WS}, Frm (w1.lent os) w' → Mt (cc X ρ) π e1 σ { G := addT w1.G w'.H, H := w'.H, fp := w1.fp } ∧ Frm w1 { G := addT w1.G w'.H, H := w'.H, fp := w1.fp } := fun {w'} f' => by
        have keep : ∀ a o, w1.H a = some o → w'.H a = some o := fun a o h => (f'.k a o h fun _ z => z).1
        refine ⟨⟨m1.len, addT_sub m1.sub keep, addT_tg, fun i b q => ?_, m1.non, m1.dis, m1.pin⟩, ⟨addT_same m1.tg m1.sub keep, fun a o h n => ⟨keep a o h, addT_old m1.tg keep a o h, n⟩, f'.t⟩⟩
        obtain ⟨v, g1, g2⟩ := m1.bok i b q
        refine ⟨v, g1, g2.mono (addT_same m1.tg m1.sub keep) fun a ha => ?_⟩
        obtain ⟨_, o, ho⟩ := g2.own a ha
        exact ⟨(keep a o ho).trans ho.symm, addT_old m1.tg keep a o ho⟩
      split at h2
      · rename_i d e2 qF
        rw [qF]
        split at h2
        · rename_i hfl
          intro v w' m' f' k'
          obtain ⟨g1, g2⟩ := back f'
          obtain ⟨fp, b1, b2⟩ := k'
          exact h2 v { G := addT w1.G w'.H, H := w'.H, fp := w1.fp } g1 g2 (.fr (flat_rp b1.1 hfl))
        · exact h2.elim
      · rename_i cc_ e2 qF
        rw [qF]
        intro w' A hA m' f'
        obtain ⟨g1, g2⟩ := back f'
        exact h2 { G := addT w1.G w'.H, H := w'.H, fp := w1.fp } A hA g1 g2
      · exact h2.elim
end
end VL
set_option maxRecDepth 100000
namespace VL
open PySem L2
section
variable {X : Cx} {ρ : Nat → Res} {W : WX} {pn : List Nat} {a b c o : Expr} {es : List Expr} {pos p apos cpos : Pos} {fa fb fc fx fv fy : FE} {fd : FD} {as_ : FA} {C : Cc} {π : List (Nat × V)} {e e1 e2 : Env} {σ : St} {w w0 w1 w2 : WS}
/-- the list of a name changed -/
theorem Mt.mut {i : Nat} {ds ds' : List PyData} (m : Mt C π e σ w) (h : at? e i = some (.ow ds)) : ∃ p xs, σ[i]? = some (some (.ref p)) ∧ w.H p = some (.lst xs) ∧ w.G p = none ∧ RpAll C.K w.G xs ds ∧
    ∀ xs', RpAll C.K w.G xs' ds' → Mt C π (e.set i (some (.ow ds'))) σ { w with H := upd w.H p (.lst xs') } ∧ Frm w { w with H := upd w.H p (.lst xs') } := by
  obtain ⟨v, h1, h2⟩ := m.bok i _ h
  obtain ⟨p, xs, rfl, g1, g2, g3, g4⟩ := h2
  refine ⟨p, xs, h1, g2, g1, g3, fun xs' r => ⟨⟨by rw [List.length_set]; exact m.len, fun a o q => ?_, m.tg.put (fun _ h => by cases h), fun j b q => ?_, fun j q a z => ?_, m.dis, m.pin⟩, ⟨Same.refl _, fun a o q n => ⟨?_, rfl, n⟩, fun a q => ?_⟩⟩⟩
  · show upd w.H p (.lst xs') a = some o
    rw [upd_ne (ne_of_none q g1)]
    exact m.sub a o q
  · by_cases hj : i = j
    · subst hj
      rw [at_set_same h] at q
      cases q
      exact ⟨.ref p, h1, p, xs', rfl, g1, upd_same, r, g4⟩
    · rw [at_set_ne hj] at q
      obtain ⟨u, k1, k2⟩ := m.bok j b q
      refine ⟨u, k1, k2.mono (Same.refl _) fun a ha => ⟨upd_ne fun z => ?_, rfl⟩⟩
      subst z
      exact hj (m.dis i j a ((g4 a).mpr rfl) ha)
  · by_cases hj : i = j
    · subst hj
      rw [at_set_same h] at q
      cases q
    · rw [at_set_ne hj] at q
      exact m.non j q a z
  · show upd w.H p (.lst xs') a = some o
    rw [upd_ne fun z => n i (by rw [z]; exact (g4 p).mpr rfl)]
    exact q
  · by_cases z : a = p
    · rw [z] at q
      have q' : upd w.H p (.lst xs') p = none := q
      rw [upd_same] at q'
      cases q'
    · have q' : upd w.H p (.lst xs') a = none := q
      rw [upd_ne z] at q'
      exact q'
/-- a method that changes its list -/
def MthV (X : Cx) (id : String) (g : List PyData → List PyData → Option (B × List PyData)) : Prop := ∃ r, MtR X id r ∧
  ∀ (G H : Hp) (p : Addr) (xs vs : List V) (ds as : List PyData) (b : B) (ds' : List PyData) (Q : VK), H p = some (.lst xs) → Same G H → G p = none → RpAll X.K G xs ds → RpAll X.K G vs as → g ds as = some (b, ds') →
    (∀ v d xs', b = .fr d → Rp X.K G v d → RpAll X.K G xs' ds' → Q v (upd H p (.lst xs'))) → r (.ref p) vs H Q
theorem se_mth {r : V → List V → Hp → VK → Prop} {g : List PyData → List PyData → Option (B × List PyData)} {i : Nat} {t : TA} (hr : ∀ (G H : Hp) (p : Addr) (xs vs : List V) (ds as : List PyData) (b : B) (ds' : List PyData) (Q : VK), H p = some (.lst xs) → Same G H → G p = none → RpAll C.K G xs ds → RpAll C.K G vs as → g ds as = some (b, ds') →
    (∀ v d xs', b = .fr d → Rp C.K G v d → RpAll C.K G xs' ds' → Q v (upd H p (.lst xs'))) → r (.ref p) vs H Q) (s : SD C W t fd) : SE C W (tBM C.K "list" r (tVar i) t) (fMth i g fd) := fun π e σ w Q m h => by
  unfold fMth at h
  split at h
  case h_2 => exact h.elim
  case h_1 dd q =>
    obtain ⟨v0, h1, h2⟩ := m.bok i _ q
    refine ⟨v0, h1, ?_⟩
    have h3 : Post C W π σ w (bnd (fd e) fun as e1 => match at? e1 i with
      | some (.ow ds) => (g ds as).bind fun p => some (.ok (O.b p.1) (e1.set i (some (.ow p.2))))
      | _ => none) (OOk C σ w) Q := h
    -- what the name holds is a list of its own, ahead too
    have hty : tyV C.K "list" v0 w.H := by
      obtain ⟨p, xs, rfl, _, g2, _⟩ := h2
      exact .inl ⟨rfl, xs, .of g2⟩
    refine ⟨hty, s π e σ w _ m (h3.bnd fun as e1 vs w1 m1 f1 k1 h4 => ?_)⟩
    have h5 := h4.from f1
    split at h5
    · rename_i ds q1
      cases qg : g ds as with
      | none => rw [qg] at h5; exact h5.elim
      | some pr =>
        rw [qg] at h5
        obtain ⟨b, ds'⟩ := pr
        simp only [Option.bind_some] at h5
        obtain ⟨p, xs, g1, g2, g3, g4, g5⟩ := m1.mut (ds' := ds') q1
        rw [h1] at g1
        cases g1
        refine hr w1.G w1.H p xs vs ds as b ds' Q g2 m1.sub g3 g4 k1 qg fun v d xs' eb rv rx => ?_
        subst eb
        obtain ⟨m2, f2⟩ := g5 xs' rx
        exact h5 v _ m2 f2 (.fr rv)
    · exact h5.elim
theorem ve_mth {name : Str} {id : String} {y : Str} {g : List PyData → List PyData → Option (B × List PyData)} {py : Pos} (hm : MthV X id g) (i : Nat) (slot : Slot "list" name id) (hty : typeOf (.builtin id) = pure (.type "method_descriptor")) (ha : VD X ρ W (a :: es) fd)
    (hN : X.N[i]? = some y := by rfl) (hv : Vis X.env.scope y := by first | exact Or.inl rfl | exact Or.inr (Or.inl rfl) | exact Or.inr (Or.inr rfl)) (hd : (y == ("__debug__" : Str)) = false := by decide) (hcd : (y == ("__classdict__" : Str)) = false := by decide)
    (hbase : attributeBase (.Name y py) name X.env (eval (.Name y py) X.env) = eval (.Name y py) X.env := by rfl)
    (hfew : ((backTo cpos (starEach (a :: es) X.env)).all (fun x => !x.1) && (backToKw cpos (keywordEach [] X.env)).all (fun x => x.1.isSome)
      && decide ((a :: es).length + ([] : List Keyword).length + (if ([] : List Keyword).isEmpty then 0 else 1) < 30)) = true := by rfl)
    (hline : (apos.endLine == cpos.line) = true := by rfl) (hs : starEach (a :: es) X.env = (false, eval a X.env) :: starEach es X.env := by rfl) (hplain : (backTo cpos (starEach es X.env)).any (·.1) = false := by rfl) :
    VE X ρ W (.Call (.Attribute (.Name y py) name apos) (a :: es) [] cpos) (fMth i g fd) := by
  obtain ⟨r, h1, h2⟩ := hm
  obtain ⟨t, pa, s⟩ := ha
  exact ⟨_, pe_bm PySem.F.plainAttrs_list slot hty h1 (pe_var hN hv hd hcd) pa hbase hfew hline hs hplain, se_mth h2 s⟩
theorem ve_mth0 {name : Str} {id : String} {y : Str} {g : List PyData → List PyData → Option (B × List PyData)} {py : Pos} (hm : MthV X id g) (i : Nat) (slot : Slot "list" name id) (hty : typeOf (.builtin id) = pure (.type "method_descriptor"))
    (hN : X.N[i]? = some y := by rfl) (hv : Vis X.env.scope y := by first | exact Or.inl rfl | exact Or.inr (Or.inl rfl) | exact Or.inr (Or.inr rfl)) (hd : (y == ("__debug__" : Str)) = false := by decide) (hcd : (y == ("__classdict__" : Str)) = false := by decide)
    (hbase : attributeBase (.Name y py) name X.env (eval (.Name y py) X.env) = eval (.Name y py) X.env := by rfl) (hline : (apos.endLine == cpos.line) = true := by rfl) :
    VE X ρ W (.Call (.Attribute (.Name y py) name apos) [] [] cpos) (fMth i g dNil) := by
  obtain ⟨r, h1, h2⟩ := hm
  refine ⟨_, pe_bm0 PySem.F.plainAttrs_list slot hty h1 (pe_var hN hv hd hcd) hbase hline, fun π e σ w Q m h => ?_⟩
  exact se_mth (t := tNil) (fd := dNil) h2 (fun π e σ w Q m h => h [] w m (.refl w) .nil) π e σ w Q m h
theorem lt_big {n : Nat} (h : n < big) : n < sizeLine := Nat.lt_of_lt_of_le h big_le
theorem v_append : MthV X "list.append" mAppend := by
  refine ⟨_, mt_append, fun G H p xs vs ds as b ds' Q hp s hG rx rv hg k => ?_⟩
  unfold mAppend at hg
  split at hg
  · split at hg
    · rename_i d hb
      cases hg
      cases rv with
      | cons r1 r2 =>
        cases r2
        exact ⟨p, xs, _, rfl, rfl, hp, by rw [rx.length]; exact lt_big hb, k .non .none _ rfl .non (rx.append (.cons r1 .nil))⟩
    · cases hg
  · cases hg
theorem RpAll.dropLast {K : PySem.W.Frag} {G : Hp} {vs : List V} {ds : List PyData} (h : RpAll K G vs ds) : RpAll K G vs.dropLast ds.dropLast := by
  rw [List.dropLast_eq_take, List.dropLast_eq_take, h.length]
  exact h.take _
theorem v_pop : MthV X "list.pop" mPop := by
  refine ⟨_, MtR.or mt_pop mt_popAt, fun G H p xs vs ds as b ds' Q hp s hG rx rv hg k => ?_⟩
  unfold mPop at hg
  split at hg
  · cases rv
    cases q : ds[ds.length - 1]? with
    | none => rw [q] at hg; cases hg
    | some d =>
      rw [q] at hg
      cases hg
      obtain ⟨v, h1, h2⟩ := rx.get q
      exact .inl ⟨p, xs, v, rfl, rfl, hp, by rw [rx.length]; exact h1, k v d _ rfl h2 rx.dropLast⟩
  · split at hg
    · rename_i i hl
      have hl' : -(2 ^ 63) ≤ i ∧ i < 2 ^ 63 := by
        unfold lim63 at hl
        rw [decide_eq_true_eq] at hl
        omega
      cases rv with
      | cons r1 r2 =>
        cases r2
        cases r1
        cases q : seqIndex? i ds.length with
        | none => rw [q] at hg; cases hg
        | some n =>
          rw [q] at hg
          simp only [Option.bind_some] at hg
          cases q2 : ds[n]? with
          | none => rw [q2] at hg; cases hg
          | some d =>
            rw [q2] at hg
            cases hg
            obtain ⟨v, h1, h2⟩ := rx.get q2
            exact .inr ⟨p, xs, i, n, v, rfl, rfl, hp, hl'.1, hl'.2, by rw [rx.length]; exact q, h1, k v d _ rfl h2 (rx.eraseIdx n)⟩
    · cases hg
  · cases hg
theorem v_insert : MthV X "list.insert" mInsert := by
  refine ⟨_, mt_insert, fun G H p xs vs ds as b ds' Q hp s hG rx rv hg k => ?_⟩
  unfold mInsert at hg
  split at hg
  · split at hg
    · rename_i i d hb
      cases hg
      cases rv with
      | cons r1 r2 =>
        cases r1
        cases r2 with
        | cons r3 r4 =>
          cases r4
          exact ⟨p, xs, i, _, rfl, rfl, hp, by rw [rx.length]; exact lt_big hb.2.2, hb.1, by omega, k .non .none _ rfl .non (((rx.take _).append (.cons r3 .nil)).append (rx.drop _))⟩
    · cases hg
  · cases hg
end
end VL
set_option maxRecDepth 100000
namespace VL
open PySem L2
section
variable {X : Cx} {ρ : Nat → Res} {W : WX} {pn : List Nat} {a b c o tg : Expr} {es : List Expr} {pos p apos cpos : Pos} {fa fb fc fx fv fy : FE} {fd : FD} {ft : FG} {as_ : FA} {C : Cc} {π : List (Nat × V)} {e e1 e2 : Env} {σ : St} {w w0 w1 w2 : WS}
theorem Vx.u66 (V0 : Vx X W) : X.A.units + 66 < cLine := by have := V0.room.un; omega
theorem bndS_bnd {α β : Type} {r : Option (Out α)} {F : α → Env → Option (Out β)} {kk : β → Env → Option SO} : bndS (bnd r F) kk = bndS r fun a e => bndS (F a e) kk := by
  cases r with
  | none => rfl
  | some x => cases x <;> rfl
theorem put_sound {ti : TE} {i : Nat} {d : PyData} {x : V} {D : Ends} {kk : Unit → Env → Option SO} {Qt : St → Hp → Prop} (s : SE C W ti fx) (m : Mt C π e σ w) (r : Rp C.K w.G x d) (h : PostS C W π w (bndS (putAt i fx d e) kk) D)
    (hk : ∀ e2 w2, Mt C π e2 σ w2 → Frm w w2 → PostS C W π w2 (kk () e2) D → Qt σ w2.H) : gSub (tVar i) ti rSetL x σ w.H Qt := by
  unfold putAt at h
  cases q : at? e i with
  | none => rw [q] at h; exact h.elim
  | some b =>
    rw [q] at h
    obtain ⟨v, h1, h2⟩ := m.bok i b q
    refine ⟨v, h1, ?_⟩
    have h' : PostS C W π w (bndS (bnd (fx e) fun o e1 => match res e1 o, at? e1 i with
      | some (.int k), some (.ow ds) => (ixN ds.length k).bind fun j => some (.ok () (e1.set i (some (.ow (ds.set j d)))))
      | _, _ => none) kk) D := h
    rw [bndS_bnd] at h'
    refine s π e σ w _ m (h'.bnd fun o1 e1 v1 w1 m1 f1 k1 h3 => ?_)
    split at h3
    · rename_i k ds q1 q2
      cases qj : ixN ds.length k with
      | none => rw [qj] at h3; exact h3.elim
      | some j =>
        rw [qj] at h3
        simp only [Option.bind_some] at h3
        obtain ⟨p, xs, g1, g2, g3, g4, g5⟩ := m1.mut (ds' := ds.set j d) q2
        rw [h1] at g1
        cases g1
        have rk := res_sound m1 k1 q1
        cases rk
        obtain ⟨m2, f2⟩ := g5 (xs.set j x) (RpAll.set (r.mono f1.g) j g4)
        exact ⟨p, xs, k, j, rfl, rfl, g2, by rw [g4.length]; exact qj, hk _ _ m2 (f1.trans f2) (h3.from (f1.trans f2))⟩
    · exact h3.elim
theorem ss_put2 {te : TA} {ti tj : TE} {i j : Nat} (sv : SD C W te fd) (sx : SE C W ti fx) (sy : SE C W tj fy) : SS C W pn (tAsg (tTup te) (gTup C.K 2 (gCons (gSub (tVar i) ti rSetL) (gCons (gSub (tVar j) tj rSetL) gNil)))) (sPut2 i fx j fy fd) := fun π e σ w D hp m h => by
  refine sv π e σ w _ m (h.bnd fun ds e1 vs w1 m1 f1 k1 h1 => ?_)
  split at h1
  · rename_i d1 d2
    refine ⟨by rw [k1.length]; show 2 ≤ sizeLine; decide, fun p hp => ?_⟩
    obtain ⟨w2, m2, f2, eH, k2⟩ := mk_tup m1 hp k1
    have hT : w2.H p = some (.tup vs) := by rw [eH]; exact upd_same
    rw [← eH]
    cases k1 with
    | cons r1 k1 =>
      cases k1 with
      | cons r2 k1 =>
        cases k1
        refine ⟨p, _, rfl, .of hT, rfl, _, _, rfl, ?_⟩
        refine put_sound sx m2 (r1.mono f2.g) (h1.from (f1.trans f2)) fun e3 w3 m3 f3 h3 => ⟨_, _, rfl, ?_⟩
        exact put_sound sy m3 (r2.mono (f2.g.trans f3.g)) h3 fun e4 w4 m4 f4 h4 => ⟨rfl, h4 σ w4 m4 (.refl _)⟩
  · exact h1.elim
theorem vs_put2 {x y : Str} {px py ps pt p2 pp : Pos} {b2 a2 : Expr} {kt k2} (V0 : Vx X W) (i j : Nat) (hx : VE X ρ W b fx) (hy : VE X ρ W b2 fy) (hv : VD X ρ W [a, a2] fd) (hN : X.N[i]? = some x := by rfl) (hN2 : X.N[j]? = some y := by rfl)
    (hvs : Vis X.env.scope x := by first | exact Or.inl rfl | exact Or.inr (Or.inl rfl) | exact Or.inr (Or.inr rfl)) (hvs2 : Vis X.env.scope y := by first | exact Or.inl rfl | exact Or.inr (Or.inl rfl) | exact Or.inr (Or.inr rfl)) (hd : (x == ("__debug__" : Str)) = false := by decide) (hd2 : (y == ("__debug__" : Str)) = false := by decide)
    (hcd : (x == ("__classdict__" : Str)) = false := by decide) (hcd2 : (y == ("__classdict__" : Str)) = false := by decide)
    (hs : swapsWithSole [.Tuple [.Subscript (.Name x px) b ps, .Subscript (.Name y py) b2 p2] kt pt] (.Tuple [a, a2] k2 pp) pos.line X.env = pure false := by rfl) (hw : swappedStores [.Tuple [.Subscript (.Name x px) b ps, .Subscript (.Name y py) b2 p2] kt pt] (.Tuple [a, a2] k2 pp) X.env = pure none := by rfl)
    (h1 : (assignEach [.Tuple [.Subscript (.Name x px) b ps, .Subscript (.Name y py) b2 p2] kt pt] X.env).map (·.2) = [assign (.Tuple [.Subscript (.Name x px) b ps, .Subscript (.Name y py) b2 p2] kt pt) X.env] := by rfl)
    (ha : ∀ v, assign (.Subscript (.Name x px) b ps) X.env v = (do
      let ov ← holding [v] (eval (.Name x px) X.env)
      let iv ← holding [v, ov] (eval b X.env)
      standAt ps
      holding [v, ov, iv] (setItem ov iv v)
      release [v, ov, iv] []) := by intro _; rfl)
    (ha2 : ∀ v, assign (.Subscript (.Name y py) b2 p2) X.env v = (do
      let ov ← holding [v] (eval (.Name y py) X.env)
      let iv ← holding [v, ov] (eval b2 X.env)
      standAt p2
      holding [v, ov, iv] (setItem ov iv v)
      release [v, ov, iv] []) := by intro _; rfl)
    (hn : (assignEach [.Subscript (.Name x px) b ps, .Subscript (.Name y py) b2 p2] X.env).length = 2 := by rfl) (hst : (assignEach [.Subscript (.Name x px) b ps, .Subscript (.Name y py) b2 p2] X.env).findIdx? (·.1) = none := by rfl)
    (hs1 : (assignEach (.Subscript (.Name x px) b ps :: [.Subscript (.Name y py) b2 p2]) X.env).map (·.2) = assign (.Subscript (.Name x px) b ps) X.env :: (assignEach [.Subscript (.Name y py) b2 p2] X.env).map (·.2) := by rfl)
    (hs2 : (assignEach (.Subscript (.Name y py) b2 p2 :: []) X.env).map (·.2) = assign (.Subscript (.Name y py) b2 p2) X.env :: (assignEach [] X.env).map (·.2) := by rfl) :
    VS X ρ W pn (.Assign [.Tuple [.Subscript (.Name x px) b ps, .Subscript (.Name y py) b2 p2] kt pt] (.Tuple [a, a2] k2 pp) pos) (sPut2 i fx j fy fd) := by
  obtain ⟨t, p, s⟩ := hx
  obtain ⟨t3, p3, s3⟩ := hy
  obtain ⟨t4, p4, s4⟩ := hv
  exact ⟨_, ps_asg (pe_tup p4) (pg_tup V0.calm (pgs_cons (pg_sub (pe_var hN hvs hd hcd) p set_list ha) (pgs_cons (pg_sub (pe_var hN2 hvs2 hd2 hcd2) p3 set_list ha2) pgs_nil hs2) hs1) hn hst) hs hw h1, ss_put2 s4 s s3⟩
def IpV (X : Cx) (op : Operator) (g : PyData → PyData → Option B) : Prop := ∃ r, PIp X op r ∧ ∀ (G H : Hp) x y dx dy z (Q : VK), Rq X.K G H x dx → Rq X.K G H y dy → g dx dy = some z → (∀ v d, z = .fr d → Rp X.K G v d → Q v H) → r x y H Q
theorem i_add : IpV X .Add (opI0 fun i j => i + j) := by
  refine ⟨_, ip_add, fun G H x y dx dy z Q hx hy hz k => ?_⟩
  unfold opI0 at hz
  split at hz
  · cases hz
    cases hx
    cases hy
    exact ⟨_, _, rfl, rfl, k _ _ rfl (.int _)⟩
  · cases hz
theorem get_list : PGet X (rIxL X.K) := by
  intro pins s σ H x y v u Q I rx ry h
  obtain ⟨p, xs, i, z, rfl, rfl, hq, he, q⟩ := h
  cases rx
  obtain ⟨t, rfl⟩ := ry
  obtain ⟨its, r, pl, hz⟩ := I.list hq
  obtain ⟨j, h1, h2, h3, h4, h5⟩ := atI_get he
  obtain ⟨w, ew, rw'⟩ := r.get h2
  have hl := r.length
  have hn := line63
  have fin : EP X pins σ Q w s := ⟨z, H, I, rw', q⟩
  by_cases h0 : 0 ≤ i
  · have hj : i.toNat = j := by
      rw [seqIndex_of h0 h5] at h1
      exact Option.some.inj h1
    exact wpAny_getItem_list pl.isList h0 (by omega) (by rw [hj]; simpa using ew) fin
  · have hj : (i + (its.toArray.size : Int)).toNat = j := by
      rw [seqIndex_neg (by omega) h4] at h1
      rw [List.size_toArray, ← hl]
      exact Option.some.inj h1
    exact wpAny_getItem_list_neg pl.isList (by omega) (by rw [List.size_toArray] <;> omega) (by omega) (by rw [hj]; simpa using ew) fin
end
end VL
set_option maxRecDepth 100000
namespace VL
open PySem L2
/-- the built-in types that are asked for -/
inductive Ty where
  | int | bool | str | list | tuple | dict
def Ty.nm : Ty → String
  | .int => "int" | .bool => "bool" | .str => "str" | .list => "list" | .tuple => "tuple" | .dict => "dict"
def tyN : PyData → String
  | .none => "NoneType"
  | .bool _ => "bool"
  | .int _ => "int"
  | .str _ => "str"
  | .list _ => "list"
  | .tuple _ => "tuple"
  | .dict _ => "dict"
def isD : Ty → PyData → Bool
  | .int, .int _ => true
  | .int, .bool _ => true
  | .bool, .bool _ => true
  | .str, .str _ => true
  | .list, .list _ => true
  | .tuple, .tuple _ => true
  | .dict, .dict _ => true
  | _, _ => false
def fIsi (T : Ty) (fa : FE) : FE := fun e => bnd (fa e) fun o e1 => (res e1 o).bind fun d => okD (.bool (isD T d)) e1
theorem kit_is (T : Ty) : ∀ d, kitB (tyN d) T.nm = some (isD T d) := by
  have h : ∀ T : Ty, kitB "NoneType" T.nm = some false ∧ kitB "bool" T.nm = some (isD T (.bool true)) ∧ kitB "int" T.nm = some (isD T (.int 0)) ∧ kitB "str" T.nm = some (isD T (.str "")) ∧ kitB "list" T.nm = some (isD T (.list [])) ∧ kitB "tuple" T.nm = some (isD T (.tuple [])) ∧ kitB "dict" T.nm = some (isD T (.dict [])) := by
    intro T
    cases T <;> decide +kernel
  obtain ⟨h1, h2, h3, h4, h5, h6, h7⟩ := h T
  intro d
  cases d with
  | none => exact h1.trans (by cases T <;> rfl)
  | bool b => exact h2.trans (by cases T <;> rfl)
  | int b => exact h3.trans (by cases T <;> rfl)
  | str b => exact h4.trans (by cases T <;> rfl)
  | list b => exact h5.trans (by cases T <;> rfl)
  | tuple b => exact h6.trans (by cases T <;> rfl)
  | dict b => exact h7.trans (by cases T <;> rfl)
section
variable {X : Cx} {ρ : Nat → Res} {W : WX} {pn : List Nat} {a b c o tg : Expr} {es : List Expr} {pos p p2 apos cpos : Pos} {fa fb fc fx fv fy : FE} {fd : FD} {ft : FG} {as_ : FA} {C : Cc} {π : List (Nat × V)} {e e1 e2 : Env} {σ : St} {w w0 w1 w2 : WS}
theorem Rq.ty {K : PySem.W.Frag} {G H : Hp} {v : V} {d : PyData} (r : Rq K G H v d) (s : Same G H) : TyX K H v (.type (tyN d)) := by
  cases d with
  | none => cases r; exact .base .non
  | bool b => cases r; exact .base (.bl b)
  | int b => cases r; exact .base (.int b)
  | str b => cases r; exact .base (.str b)
  | list b => obtain ⟨a, xs, rfl, h, _⟩ := r; exact .base (.lst h)
  | tuple b => obtain ⟨a, xs, rfl, h, _⟩ := r; exact .base (.tup (s _ _ h))
  | dict b => obtain ⟨a, xs, rfl, h, _⟩ := r; exact .base (.dK h)
theorem ve_isi (T : Ty) {x : Str} (ha : VE X ρ W a fa) (hm : X.mg "isinstance" = none) (hmx : X.mg x = none) (hv : bootBuiltins x = some (.type T.nm)) (hg : Gl X "isinstance" := by rfl) (hgx : Gl X x := by rfl) (hn : x ≠ "__name__" := by decide) (hdb : (x == ("__debug__" : Str)) = false := by decide)
    (he : starEach (a :: [.Name x p2]) X.env = (false, eval a X.env) :: starEach [.Name x p2] X.env := by rfl) (he2 : starEach (.Name x p2 :: []) X.env = (false, eval (.Name x p2) X.env) :: starEach [] X.env := by rfl) (hpl : (backTo pos (starEach [.Name x p2] X.env)).any (·.1) = false := by rfl) :
    VE X ρ W (.Call (.Name "isinstance" p) [a, .Name x p2] [] pos) (fIsi T fa) := by
  obtain ⟨t, pa, s⟩ := ha
  refine ⟨_, pe_callB call_isi hg hm PyProof.Rows.boot_isinstance (pa_cons pa (pa_cons (pe_bltn hgx hmx hv (v := .ty T.nm) rfl hn hdb) pa_nil he2) he) (by decide) (by decide) he hpl, fun π e σ w Q m h => ?_⟩
  refine s π e σ w _ m (h.bnd fun o1 e1 v1 w1 m1 f1 k1 h1 => ?_)
  have h3 := h1.from f1
  cases q1 : res e1 o1 with
  | none => rw [q1] at h3; exact h3.elim
  | some d1 =>
    rw [q1] at h3
    simp only [Option.bind_some] at h3
    exact ⟨v1, .ty T.nm, .type (tyN d1), .type T.nm, isD T d1, rfl, .ty _, (res_sound m1 k1 q1).ty m1.sub, kit_ty (kit_is T d1), h3 _ w1 m1 (.refl _) (.fr (.bl _))⟩
def bOf (e : Env) : O → Option B
  | .s i => at? e i
  | .b b => some b
theorem bOf_sound {o : O} {v : V} {b : B} (m : Mt C π e σ w) (h : OOk C σ w0 w o v) (hr : bOf e o = some b) : ∃ fp, BOk C w.G w.H b v fp := by
  cases o with
  | s i =>
    have hv : σ[i]? = some (some v) := h
    obtain ⟨u, h1, h2⟩ := m.bok i b hr
    rw [hv] at h1
    cases h1
    exact ⟨_, h2⟩
  | b b' =>
    cases hr
    obtain ⟨fp, h1, h2⟩ := h
    exact ⟨fp, h1⟩
def fScLen (fa : FE) : FE := fun e => bnd (fa e) fun o e1 => match bOf e1 o with
  | some (.sc ns) => okD (.int ns.length) e1
  | _ => none
def fScIx (fa fb : FE) : FE := fun e => bnd (fa e) fun o e1 => bnd (fb e1) fun o2 e2 => match bOf e2 o, res e2 o2 with
  | some (.sc ns), some (.int i) => (atI ns i).bind fun n => okD (.int n) e2
  | _, _ => none
theorem ve_scLen (ha : VE X ρ W a fa) (hm : X.mg "len" = none) (hv : bootBuiltins "len" = some (.builtin "len")) (hg : Gl X "len" := by rfl)
    (he : starEach (a :: []) X.env = (false, eval a X.env) :: starEach [] X.env := by rfl) (hpl : (backTo pos (starEach [] X.env)).any (·.1) = false := by rfl) : VE X ρ W (.Call (.Name "len" p) [a] [] pos) (fScLen fa) := by
  obtain ⟨t, pa, s⟩ := ha
  refine ⟨_, pe_callB call_len_seq hg hm hv (pa_cons pa pa_nil he) (by decide) (by decide) he hpl, fun π e σ w Q m h => ?_⟩
  refine s π e σ w _ m (h.bnd fun o1 e1 v1 w1 m1 f1 k1 h1 => ?_)
  have h3 := h1.from f1
  split at h3
  · rename_i ns q1
    obtain ⟨fp, ⟨p, rfl, hq⟩, _⟩ := bOf_sound m1 k1 q1
    refine ⟨p, _, rfl, .inl (m1.sub.seq hq), ?_⟩
    rw [List.length_map]
    exact h3 _ w1 m1 (.refl _) (.fr (.int _))
  · exact h3.elim
theorem at_ints {ns : List Int} {i n : Int} (h : atI ns i = some n) : atI (ns.map V.int) i = some (.int n) := by
  unfold atI at h ⊢
  rw [List.length_map]
  cases q : ixN ns.length i with
  | none => rw [q] at h; cases h
  | some j =>
    rw [q] at h
    simp only [Option.bind_some] at h ⊢
    rw [List.getElem?_map, h]
    rfl
theorem ve_scIx (ha : VE X ρ W a fa) (hb : VE X ρ W b fb) (hs : PlainIx b := by exact fun _ _ => rfl) : VE X ρ W (.Subscript a b pos) (fScIx fa fb) := by
  obtain ⟨t, p, s⟩ := ha
  obtain ⟨t2, p2, s2⟩ := hb
  refine ⟨_, pe_ix ix_list p p2 hs, fun π e σ w Q m h => ?_⟩
  refine s π e σ w _ m (h.bnd fun o1 e1 v1 w1 m1 f1 k1 h1 => ?_)
  refine s2 π e1 σ w1 _ m1 ((h1.from f1).bnd fun o2 e2 v2 w2 m2 f2 k2 h2 => ?_)
  have h3 := h2.from f2
  split at h3
  · rename_i ns i q1 q2
    obtain ⟨fp, ⟨p, rfl, hq⟩, _⟩ := bOf_sound m2 (k1.step f2) q1
    have r2 := res_sound m2 k2 q2
    cases r2
    cases q3 : atI ns i with
    | none => rw [q3] at h3; exact h3.elim
    | some n =>
      rw [q3] at h3
      simp only [Option.bind_some] at h3
      exact ⟨p, _, i, .int n, rfl, rfl, m2.sub.seq hq, at_ints q3, h3 _ w2 m2 (.refl _) (.fr (.int _))⟩
  · exact h3.elim
end
end VL
set_option maxRecDepth 100000
namespace VL
open PySem L2
theorem b_len : bootBuiltins "len" = some (.builtin "len") := by decide +kernel
theorem b_max : bootBuiltins "max" = some (.builtin "max") := by decide +kernel
theorem b_min : bootBuiltins "min" = some (.builtin "min") := by decide +kernel
theorem b_sum : bootBuiltins "sum" = some (.builtin "sum") := by decide +kernel
theorem b_sorted : bootBuiltins "sorted" = some (.builtin "sorted") := by decide +kernel
theorem b_int : bootBuiltins "int" = some (.type "int") := by decide +kernel
theorem b_bool : bootBuiltins "bool" = some (.type "bool") := by decide +kernel
theorem b_list : bootBuiltins "list" = some (.type "list") := by decide +kernel
theorem b_tuple : bootBuiltins "tuple" = some (.type "tuple") := by decide +kernel
theorem b_dict : bootBuiltins "dict" = some (.type "dict") := by decide +kernel
section
variable {X : Cx} {ρ : Nat → Res} {W : WX} {pos : Pos}
/-- a number of the module -/
theorem ve_gint {x : Str} {i : Int} (hm : ∃ t, X.mg x = some (.int i t)) (hg : Gl X x := by rfl) (hd : (x == ("__debug__" : Str)) = false := by decide) : VE X ρ W (.Name x pos) (fC (.int i)) := by
  obtain ⟨t, h⟩ := hm
  exact ve_glob h (v := .int i) ⟨t, rfl⟩ (fun _ => .int i) hg hd
end
section
variable {P : Program} {w : World} {K : PySem.W.Frag} {mg : Str → Option Value} {base : Heap} {ρ : Nat → Res}
/-- the module's def x computes F; the parameters at ms are changed -/
structure CalK (P : Program) (w : World) (K : PySem.W.Frag) (mg : Str → Option Value) (base : Heap) (ρ : Nat → Res) (x : Str) (n : Nat) (ms : List Nat) (F : Fn) (k : Nat) : Prop where
  ex : ∃ f fd ps, FnG P w K mg base k f fd ps (spV ⟨K, mg, ρ⟩ n ms F) ∧ mg x = some (.ref f) ∧ PySem.W.keepIn K (.ref f) = true ∧ Binds K fd ps []
theorem CalK.c {X : Cx} {x : Str} {n : Nat} {ms : List Nat} {F : Fn} {k : Nat} (c : CalK X.prog X.w X.K X.mg X.base ρ x n ms F k) : Cal X ρ x n ms F k := ⟨c.ex⟩
theorem cal_mk {x qual : Str} {params : Arguments} {body : List Stmt} {scope : Scope} {f : Addr} {fd : FuncData} {N ps : List Str} {k : Nat} {g : FS} (ms : List Nat) (F : FunD K x qual params body scope [] [] f fd) (gm : mg x = some (.ref f)) (S : FnScope N ps scope) (hpn : ps.length ≤ N.length)
    (hb : ∀ (kV doc pm : Value) (an : Option Addr) (cdv ct : Value) (us : List Value), us.length = ps.length → bindArgs (PySem.W.fnOf x qual params body scope .none kV doc pm an cdv ct) ⟨us, []⟩ = pure (ps.zip us))
    (hbody : ∀ (cdv : Value) (A : Around) (outer : List PySem.Env) (s : Shared) (H : Hp) (E : XK), Room k (A.deeper (PyProof.Rows.envOfC qual scope s.heap.objs.size f cdv)) →
      Vx (cxOf (L2.CX P w) P w K mg base N qual scope f cdv A outer s H E) (fun cls d _ H => E cls d H) → VSs (cxOf (L2.CX P w) P w K mg base N qual scope f cdv A outer s H E) ρ (fun cls d _ H => E cls d H) ms body g) (hk : 1 ≤ k) :
    CalK P w K mg base ρ x ps.length ms (runF g N.length) (k + 1) := ⟨f, fd, ps, fn_okV ms F S hpn hbody hk, gm, F.kp, F.bindsN hb⟩
theorem xc_ok {h : Heap} {x : Str} (KX : K.In h) (G : h.Ns mainGlobals mg) (c : (He.Fa.exc x).ok K = true) (g : (He.Fa.glo x).ok K = true) : XC K mg x := by
  obtain ⟨h1, h2, h3, h4⟩ := He.exc_ok c
  exact ⟨_, He.glo_ok KX G g, h1, h2, h3, h4⟩
/-- nothing -/
def R0 : Res := ⟨fun _ _ _ _ _ _ => False, fun h _ _ => h.elim, fun h => h.elim⟩
theorem fn_mkV {x qual : Str} {params : Arguments} {body : List Stmt} {scope : Scope} {f : Addr} {fd : FuncData} {N ps : List Str} {k : Nat} {g : FS} (ms : List Nat) (F : FunD K x qual params body scope [] [] f fd) (S : FnScope N ps scope) (hpn : ps.length ≤ N.length)
    (hbody : ∀ (cdv : Value) (A : Around) (outer : List PySem.Env) (s : Shared) (H : Hp) (E : XK), Room k (A.deeper (PyProof.Rows.envOfC qual scope s.heap.objs.size f cdv)) →
      Vx (cxOf (L2.CX P w) P w K mg base N qual scope f cdv A outer s H E) (fun cls d _ H => E cls d H) → VSs (cxOf (L2.CX P w) P w K mg base N qual scope f cdv A outer s H E) ρ (fun cls d _ H => E cls d H) ms body g) (hk : 1 ≤ k) :
    FnG P w K mg base (k + 1) f fd ps (spV ⟨K, mg, ρ⟩ ps.length ms (runF g N.length)) := fn_okV ms F S hpn hbody hk
/-- the law's answer -/
theorem law_end {F : Fn} {a : Addr} {ns : List Int} {H : Hp} (hS : SqL K H a (ns.map V.int)) (hF : ∃ e, F [.sc ns] = some (.ret (.fr (.bool true)) e)) : spV ⟨K, mg, ρ⟩ 1 [] F [.ref a] H (fun v _ => v = .bl true) (fun _ _ _ => False) := by
  obtain ⟨e, hF⟩ := hF
  refine ⟨rfl, [.sc ns], ⟨H, H, fun _ _ => False⟩, rfl, ⟨rfl, Same.refl _, fun _ _ h => h, fun i b q => ?_, fun i q a z => z, fun i j a z _ => z.elim, fun p h => by cases h⟩, ?_⟩
  · match i, q with
    | 0, q =>
      cases q
      exact ⟨_, rfl, ⟨a, rfl, hS⟩, fun _ z => z⟩
    | i + 1, q => exact absurd q (by unfold at?; simp)
  · unfold PostF
    rw [hF]
    intro v w' m f k
    obtain ⟨fp, k1, k2⟩ := k
    cases k1.1
    rfl
end
end VL
set_option maxRecDepth 100000
namespace VL
open PySem L2
abbrev Pl := Int × Int × Int
def encP (p : Pl) : PyData := .list [.int p.1, .int p.2.1, .int p.2.2]
def encD (ps : List Pl) (i : Int) : PyData := .list [.list (ps.map encP), .int i]
def decP : PyData → Option Pl
  | .list [.int a, .int b, .int c] => some (a, b, c)
  | _ => none
def decPs : List PyData → Option (List Pl)
  | [] => some []
  | d :: ds => (decP d).bind fun p => (decPs ds).map (p :: ·)
def decD : PyData → Option (List Pl × Int)
  | .list [.list ds, .int i] => (decPs ds).map fun ps => (ps, i)
  | _ => none
theorem decPs_enc : ∀ ps : List Pl, decPs (ps.map encP) = some ps
  | [] => rfl
  | p :: ps => by
    show ((decPs (ps.map encP)).map (p :: ·)) = some (p :: ps)
    rw [decPs_enc ps]
    rfl
theorem decD_enc (ps : List Pl) (i : Int) : decD (encD ps i) = some (ps, i) := by
  show (decPs (ps.map encP)).map (fun ps => (ps, i)) = some (ps, i)
  rw [decPs_enc]
  rfl
def v3 (p : Pl) : List V := [.int p.1, .int p.2.1, .int p.2.2]
/-- what is drawn from a three, and the three behind it -/
def drawP (p : Pl) (many : Int) : Int × Pl :=
  if p.2.1 = 1 ∧ 0 < p.1 then (p.1 % many, (p.1 / many, p.2.1, p.2.2))
  else
    let x := (p.1 % 99999999977 + 700001 * (p.2.2 + 1)) % 99999999947
    let y := x * x % 99999999821
    let z := y * (y + 19) % 9999999967
    (z / 13 % many, (p.1, p.2.1, p.2.2 + 1))
def drawOk (ps : List Pl) (i many : Int) : Bool := decide (0 < ps.length) && decide (0 ≤ i) && decide (0 < many) && decide (many.natAbs < 2 ^ 64)
theorem drawOk_iff {ps : List Pl} {i many : Int} : drawOk ps i many = true ↔ (0 < ps.length ∧ 0 ≤ i ∧ 0 < many ∧ many < 2 ^ 64) := by
  unfold drawOk
  rw [Bool.and_eq_true, Bool.and_eq_true, Bool.and_eq_true, decide_eq_true_eq, decide_eq_true_eq, decide_eq_true_eq, decide_eq_true_eq]
  exact ⟨fun h => ⟨h.1.1.1, h.1.1.2, h.1.2, by omega⟩, fun h => ⟨⟨⟨h.1, h.2.1⟩, h.2.2.1⟩, by omega⟩⟩
/-- the place of the three that is drawn from -/
def drawJ (ps : List Pl) (i : Int) : Nat := (i % (ps.length : Int)).toNat
def drawF : Fn := fun bs => match bs with
  | [.rs 0 d, .fr (.int many)] => match decD d with
    | some (ps, i) => if drawOk ps i many = true then (ps[drawJ ps i]?).bind fun p => some (.ret (.fr (.int (drawP p many).1)) [some (.rs 0 (encD (ps.set (drawJ ps i) (drawP p many).2) (i + 1)))]) else none
    | none => none
  | _ => none
theorem drawP_nonneg {p : Pl} {many : Int} (h : 0 < many) : 0 ≤ (drawP p many).1 ∧ (drawP p many).1 < many := by
  unfold drawP
  split
  · exact ⟨Int.emod_nonneg _ (by omega), Int.emod_lt_of_pos _ h⟩
  · exact ⟨Int.emod_nonneg _ (by omega), Int.emod_lt_of_pos _ h⟩
end VL
set_option maxRecDepth 100000
namespace VL
open PySem L2
def sNewP (i : Nat) : FS := fun e => some (.nx (e.set i (some (.rs 1 (.list [])))))
def sAppP (i : Nat) (fd : FD) : FS := fun e => match at? e i with
  | some (.rs 1 _) => bndS (fd e) fun ds e1 => match ds, at? e1 i with
    | [.int a, .int b, .int c], some (.rs 1 (.list l)) => if l.length < big then some (.nx (e1.set i (some (.rs 1 (.list (l ++ [encP (a, b, c)])))))) else none
    | _, _ => none
  | _ => none
def fDeck (i : Nat) : FE := fun e => match at? e i with
  | some (.rs 1 (.list l)) => some (.ok (.b (.rs 0 (.list [.list l, .int 0]))) (e.set i none))
  | _ => none
end VL
set_option maxRecDepth 100000
namespace VL
open PySem L2
def rgOk (i j : Int) : Bool := decide (i.natAbs < 2 ^ 62) && decide (j.natAbs < 2 ^ 62) && decide ((j - i).toNat ≤ big)
def fListRg1 (fa : FE) : FE := fun e => bnd (fa e) fun o e1 => match res e1 o with
  | some (.int j) => if rgOk 0 j = true then some (.ok (.b (.ow (rngN 0 j.toNat))) e1) else none
  | _ => none
section
variable {X : Cx} {ρ : Nat → Res} {W : WX} {a b : Expr} {pos p p2 p3 : Pos} {fa fb : FE}
theorem rp_rng {K : PySem.W.Frag} {G : Hp} {lo : Int} {n : Nat} : RpAll K G ((List.range n).map fun i => V.int (lo + (i : Nat))) (rngN lo n) := by
  unfold rngN
  generalize List.range n = l
  induction l with
  | nil => exact .nil
  | cons x l ih => exact .cons (.int _) ih
theorem rg_ok {i j : Int} (h : rgOk i j = true) : RgOk i j := by
  unfold rgOk at h
  rw [Bool.and_eq_true, Bool.and_eq_true, decide_eq_true_eq, decide_eq_true_eq, decide_eq_true_eq] at h
  exact ⟨by omega, by omega, by omega, by omega, Nat.le_trans h.2 (by decide)⟩
theorem ve_listRg1 (hc : X.calm = true) (hm : X.mg "list" = none) (hr : X.mg "range" = none) (ha : VE X ρ W a fa) (hg : Gl X "list" := by rfl) (hg2 : Gl X "range" := by rfl) (na : starEach [a] X.env = (false, eval a X.env) :: starEach [] X.env := by rfl)
    (na2 : starEach [.Call (.Name "range" p2) [a] [] p3] X.env = (false, eval (.Call (.Name "range" p2) [a] [] p3) X.env) :: starEach [] X.env := by rfl) : VE X ρ W (.Call (.Name "list" p) [.Call (.Name "range" p2) [a] [] p3] [] pos) (fListRg1 fa) := by
  obtain ⟨t, p, s⟩ := ha
  refine ⟨_, pe_listRg hc hg hm (prg_1 hg2 hr p na) na2, fun π e σ w Q m h => ?_⟩
  refine s π e σ w _ m (h.bnd fun o1 e1 v1 w1 m1 f1 k1 h1 => ?_)
  have h3 := h1.from f1
  split at h3
  · rename_i j q1
    have r := res_sound m1 k1 q1
    cases r
    split at h3
    · rename_i hok
      refine ⟨j, rfl, rg_ok hok, fun q hq => ?_⟩
      obtain ⟨m2, f2, k2⟩ := mk_lst (es := rngN 0 j.toNat) (zs := rgV 0 j) m1 hq (by unfold rgV; rw [Int.sub_zero]; exact rp_rng)
      exact h3 _ _ m2 f2 (k2.base f1)
    · exact h3.elim
  · exact h3.elim
end
end VL
set_option maxRecDepth 100000
namespace VL
open PySem L2
end VL
set_option maxRecDepth 100000
namespace VL
open PySem L2
end VL
set_option maxRecDepth 100000
namespace VL
open PySem L2
end VL
set_option maxRecDepth 100000
namespace VL
open PySem L2
def keq : PyData → PyData → Bool
  | .int i, .int j => decide (i = j)
  | .str a, .str b => decide (a = b)
  | _, _ => false
def isK : PyData → Bool
  | .int _ => true
  | .str _ => true
  | _ => false
def keyD : PyData → Key
  | .int i => .inl i
  | .str s => .inr s
  | _ => .inl 0
theorem kP_keyD {d : PyData} (h : isK d = true) : kP (keyD d) = d := by cases d <;> first | rfl | cases h
theorem kV_rq {K : PySem.W.Frag} {G H : Hp} {v : V} {d : PyData} (r : Rq K G H v d) (h : isK d = true) : v = kV (keyD d) := by cases d <;> first | (cases r; rfl) | cases h
theorem keq_kP (a b : Key) : keq (kP a) (kP b) = decide (a = b) := by
  cases a <;> cases b <;> simp [kP, keq]
abbrev DKv := List (PyData × PyData)
def lookD (ds : DKv) (k : PyData) : Option PyData := (ds.find? fun p => keq p.1 k).map (·.2)
def putD (ds : DKv) (k v : PyData) : DKv := if (ds.any fun p => keq p.1 k) = true then ds.map (fun p => if keq p.1 k = true then (p.1, v) else p) else ds ++ [(k, v)]
/-- a dict's entries and their data -/
inductive RpD (K : PySem.W.Frag) (G : Hp) : List (Key × V) → DKv → Prop
  | nil : RpD K G [] []
  | cons {k : Key} {v : V} {d : PyData} {ks : List (Key × V)} {ds : DKv} : Rp K G v d → RpD K G ks ds → RpD K G ((k, v) :: ks) ((kP k, d) :: ds)
section
variable {K : PySem.W.Frag} {G : Hp}
theorem rpd_of : ∀ {ks : List (Key × V)} {ds : DKv}, ks.map (fun q => kP q.1) = ds.map (·.1) → RpAll K G (ks.map (·.2)) (ds.map (·.2)) → RpD K G ks ds
  | [], [], _, _ => .nil
  | [], p :: ds, h, _ => by cases h
  | p :: ks, [], h, _ => by cases h
  | (k, v) :: ks, (a, d) :: ds, h, r => by
    cases r with
    | cons r1 r2 =>
      have h1 : kP k :: ks.map (fun q => kP q.1) = a :: ds.map (·.1) := h
      injection h1 with h2 h3
      subst h2
      exact .cons r1 (rpd_of h3 r2)
theorem RpD.keys : ∀ {ks : List (Key × V)} {ds : DKv}, RpD K G ks ds → ks.map (fun q => kP q.1) = ds.map (·.1)
  | _, _, .nil => rfl
  | _, _, .cons _ t => by rw [List.map_cons, List.map_cons, t.keys]
theorem RpD.vals : ∀ {ks : List (Key × V)} {ds : DKv}, RpD K G ks ds → RpAll K G (ks.map (·.2)) (ds.map (·.2))
  | _, _, .nil => .nil
  | _, _, .cons r t => .cons r t.vals
theorem RpD.length : ∀ {ks : List (Key × V)} {ds : DKv}, RpD K G ks ds → ks.length = ds.length
  | _, _, .nil => rfl
  | _, _, .cons _ t => by rw [List.length_cons, List.length_cons, t.length]
theorem RpD.mono {G' : Hp} (e : Same G G') : ∀ {ks : List (Key × V)} {ds : DKv}, RpD K G ks ds → RpD K G' ks ds
  | _, _, .nil => .nil
  | _, _, .cons r t => .cons (r.mono e) (t.mono e)
theorem RpD.append : ∀ {ks ls : List (Key × V)} {ds es : DKv}, RpD K G ks ds → RpD K G ls es → RpD K G (ks ++ ls) (ds ++ es)
  | _, _, _, _, .nil, t => t
  | _, _, _, _, .cons r t, u => .cons r (t.append u)
theorem RpD.look : ∀ {ks : List (Key × V)} {ds : DKv}, RpD K G ks ds → ∀ k : Key, (valV ks k = none ∧ lookD ds (kP k) = none) ∨ ∃ v d, valV ks k = some v ∧ lookD ds (kP k) = some d ∧ Rp K G v d
  | _, _, .nil, k => .inl ⟨rfl, rfl⟩
  | _, _, .cons (k := a) (v := v) (d := d) (ks := ks) (ds := ds) r t, k => by
    have h1 : lookD ((kP a, d) :: ds) (kP k) = if a = k then some d else lookD ds (kP k) := by
      unfold lookD
      rw [List.find?_cons, keq_kP]
      by_cases e : a = k
      · rw [decide_eq_true e, if_pos e]; rfl
      · rw [decide_eq_false e, if_neg e]
    by_cases e : a = k
    · rw [if_pos e] at h1
      exact .inr ⟨v, d, valV_pos e, h1, r⟩
    · rw [if_neg e] at h1
      rw [h1, valV_neg e]
      exact t.look k
theorem RpD.any : ∀ {ks : List (Key × V)} {ds : DKv}, RpD K G ks ds → ∀ k : Key, (ks.any fun p => decide (p.1 = k)) = ds.any fun p => keq p.1 (kP k)
  | _, _, .nil, k => rfl
  | _, _, .cons (k := a) r t, k => by rw [List.any_cons, List.any_cons, keq_kP, t.any k]
theorem RpD.over {v : V} {d : PyData} (k : Key) (r : Rp K G v d) : ∀ {ks : List (Key × V)} {ds : DKv}, RpD K G ks ds → RpD K G (ks.map (fun kv => if kv.1 = k then (kv.1, v) else kv)) (ds.map fun p => if keq p.1 (kP k) = true then (p.1, d) else p)
  | _, _, .nil => .nil
  | _, _, .cons (k := a) r1 t => by
    rw [List.map_cons, List.map_cons, keq_kP]
    by_cases q : a = k
    · rw [if_pos q, if_pos (decide_eq_true q)]
      exact .cons r (RpD.over k r t)
    · rw [if_neg q, if_neg (by rw [decide_eq_false q]; decide)]
      exact .cons r1 (RpD.over k r t)
theorem RpD.put {ks : List (Key × V)} {ds : DKv} {v : V} {d : PyData} (h : RpD K G ks ds) (k : Key) (r : Rp K G v d) : RpD K G (putK ks k v) (putD ds (kP k) d) := by
  unfold putK putD
  rw [h.any k]
  split
  · exact h.over k r
  · exact h.append (.cons r .nil)
end
theorem mk_dict {C : Cc} {π : List (Nat × V)} {e : Env} {σ : St} {w : WS} {p : Addr} {ks : List (Key × V)} {es : DKv} (m : Mt C π e σ w) (hp : w.H p = none) (r : RpD C.K w.G ks es) :
    Mt C π e σ (w.new p (.dK ks)) ∧ Frm w (w.new p (.dK ks)) ∧ OOk C σ w (w.new p (.dK ks)) (.b (.od es)) (.ref p) := mk_dic m hp r.keys r.vals
section
variable {C : Cc} {π : List (Nat × V)} {e : Env} {σ : St} {w : WS}
/-- a dict of one's own changes -/
theorem Mt.mutD {i : Nat} {ds ds' : DKv} (m : Mt C π e σ w) (h : at? e i = some (.od ds)) : ∃ p ks, σ[i]? = some (some (.ref p)) ∧ w.H p = some (.dK ks) ∧ w.G p = none ∧ RpD C.K w.G ks ds ∧
    ∀ ks', RpD C.K w.G ks' ds' → Mt C π (e.set i (some (.od ds'))) σ { w with H := upd w.H p (.dK ks') } ∧ Frm w { w with H := upd w.H p (.dK ks') } := by
  obtain ⟨v, h1, h2⟩ := m.bok i _ h
  obtain ⟨p, ks, rfl, g1, g2, g3, g3', g4⟩ := h2
  refine ⟨p, ks, h1, g2, g1, rpd_of g3 g3', fun ks' r => ⟨⟨by rw [List.length_set]; exact m.len, fun a o q => ?_, m.tg.put (fun _ h => by cases h), fun j b q => ?_, fun j q a z => ?_, m.dis, m.pin⟩, ⟨Same.refl _, fun a o q n => ⟨?_, rfl, n⟩, fun a q => ?_⟩⟩⟩
  · show upd w.H p (.dK ks') a = some o
    rw [upd_ne (ne_of_none q g1)]
    exact m.sub a o q
  · by_cases hj : i = j
    · subst hj
      rw [at_set_same h] at q
      cases q
      exact ⟨.ref p, h1, p, ks', rfl, g1, upd_same, r.keys, r.vals, g4⟩
    · rw [at_set_ne hj] at q
      obtain ⟨u, k1, k2⟩ := m.bok j b q
      refine ⟨u, k1, k2.mono (Same.refl _) fun a ha => ⟨upd_ne fun z => ?_, rfl⟩⟩
      subst z
      exact hj (m.dis i j a ((g4 a).mpr rfl) ha)
  · by_cases hj : i = j
    · subst hj
      rw [at_set_same h] at q
      cases q
    · rw [at_set_ne hj] at q
      exact m.non j q a z
  · show upd w.H p (.dK ks') a = some o
    rw [upd_ne fun z => n i (by rw [z]; exact (g4 p).mpr rfl)]
    exact q
  · by_cases z : a = p
    · rw [z] at q
      have : upd w.H p (.dK ks') p = none := q
      rw [upd_same] at this
      cases this
    · have : upd w.H p (.dK ks') a = none := q
      rwa [upd_ne z] at this
end
/-- what is read in d at k -/
def oDix : PyData → PyData → Option B
  | .dict ds, k => if isK k = true then (lookD ds k).map .fr else none
  | _, _ => none
section
variable {X : Cx} {ρ : Nat → Res} {W : WX} {pn : List Nat} {a b c o : Expr} {es : List Expr} {pos p p2 apos cpos : Pos} {fa fb fc fx fv : FE} {fd : FD}
def fDNew : FE := fun e => some (.ok (.b (.od [])) e)
theorem ve_dnew : VE X ρ W (.Dict [] [] pos) fDNew := by
  refine ⟨_, pe_dnewK, fun π e σ w Q m h => fun q hq => ?_⟩
  obtain ⟨m2, f2, k2⟩ := mk_dict (ks := []) (es := []) m hq .nil
  exact h _ _ m2 f2 k2
theorem rq_dict {K : PySem.W.Frag} {G H : Hp} {v : V} {ds : DKv} (r : Rq K G H v (.dict ds)) : ∃ a ks, v = .ref a ∧ H a = some (.dK ks) ∧ RpD K G ks ds := by
  obtain ⟨a, ks, h1, h2, h3, h4⟩ := r
  exact ⟨a, ks, h1, h2, rpd_of h3 h4⟩
theorem ve_dix (hu : X.A.units + 1 < cLine) (ha : VE X ρ W a fa) (hb : VE X ρ W b fb) (hs : NoSl b := by exact fun _ _ => rfl) : VE X ρ W (.Subscript a b pos) (fBin oDix fa fb) := by
  obtain ⟨t, p, s⟩ := ha
  obtain ⟨t2, p2, s2⟩ := hb
  refine ⟨_, pe_dget hu p p2 hs, fun π e σ w Q m h => ?_⟩
  refine s π e σ w _ m (h.bnd fun o1 e1 v1 w1 m1 f1 k1 h1 => ?_)
  refine s2 π e1 σ w1 _ m1 ((h1.from f1).bnd fun o2 e2 v2 w2 m2 f2 k2 h2 => ?_)
  have h3 := h2.from f2
  cases q1 : res e2 o1 with
  | none => rw [q1] at h3; exact h3.elim
  | some d1 =>
    cases q2 : res e2 o2 with
    | none => rw [q1, q2] at h3; exact h3.elim
    | some d2 =>
      rw [q1, q2] at h3
      simp only [Option.bind_some] at h3
      cases q3 : oDix d1 d2 with
      | none => rw [q3] at h3; exact h3.elim
      | some z =>
        rw [q3] at h3
        simp only [Option.bind_some] at h3
        unfold oDix at q3
        split at q3
        · rename_i ds
          split at q3
          · rename_i hk
            obtain ⟨ad, ks, rfl, g2, g3⟩ := rq_dict (res_sound m2 (k1.step f2) q1)
            have e2 := kV_rq (res_sound m2 k2 q2) hk
            rcases g3.look (keyD d2) with ⟨z1, z2⟩ | ⟨v, d, z1, z2, z3⟩
            · rw [kP_keyD hk] at z2; rw [z2] at q3; cases q3
            · rw [kP_keyD hk] at z2; rw [z2] at q3; cases q3
              subst e2
              exact ⟨ad, v, rfl, by rw [← z1]; exact DGet.k g2, h3 _ w2 m2 (.refl _) (.fr z3)⟩
          · cases q3
        · cases q3
end
end VL
set_option maxRecDepth 100000
namespace VL
open PySem L2
/-- an unowned thing changes -/
theorem Mt.over {C : Cc} {π : List (Nat × V)} {e : Env} {σ : St} {w : WS} {D : Addr} {o' : HO} (m : Mt C π e σ w) (hG : w.G D = none) (hn : ∀ i, ¬ w.fp i D) (ht : NTz o' := by exact fun _ h => by cases h) : Mt C π e σ { w with H := upd w.H D o' } := by
  refine ⟨m.len, fun a u qa => ?_, m.tg.put ht, fun j b qb => ?_, m.non, m.dis, m.pin⟩
  · show upd w.H D o' a = some u
    rw [upd_ne (ne_of_none qa hG)]
    exact m.sub a u qa
  · obtain ⟨v, b1, b2⟩ := m.bok j b qb
    exact ⟨v, b1, b2.mono (Same.refl _) fun a ha => ⟨upd_ne fun z => hn j (by rw [← z]; exact ha), rfl⟩⟩
theorem Frm.over {w w2 : WS} {D : Addr} {o' : HO} (f : Frm w w2) (hD : w.H D = none) : Frm w { w2 with H := upd w2.H D o' } := by
  refine ⟨f.g, fun a o ha hna => ?_, fun a ha => ?_⟩
  · obtain ⟨b1, b2, b3⟩ := f.k a o ha hna
    refine ⟨?_, b2, b3⟩
    show upd w2.H D _ a = some o
    rw [upd_ne (ne_of_none ha hD)]
    exact b1
  · by_cases z : a = D
    · rw [z]; exact hD
    · have ha' : upd w2.H D o' a = none := ha
      rw [upd_ne z] at ha'
      exact f.t a ha'
section
variable {X : Cx} {ρ : Nat → Res} {W : WX} {pn : List Nat} {a b c o : Expr} {es : List Expr} {pos p p2 apos cpos : Pos} {fa fb fc fx fv fk : FE} {fd : FD}
def putAtD (i : Nat) (f : FE) (d : PyData) : Env → Option (Out Unit) := fun e => match at? e i with
  | none => none
  | some _ => bnd (f e) fun o e1 => match res e1 o, at? e1 i with
    | some k, some (.od ds) => if isK k = true ∧ ds.length < big then some (.ok () (e1.set i (some (.od (putD ds k d))))) else none
    | _, _ => none
def sPutD (i : Nat) (fx fv : FE) : FS := fun e => bndS (fv e) fun o e1 => (fz e1 o).bind fun p => bndS (putAtD i fx p.1 p.2) fun _ e2 => some (.nx e2)
theorem put_soundD {C : Cc} {π : List (Nat × V)} {e : Env} {σ : St} {w : WS} {ti : TE} {i : Nat} {d : PyData} {x : V} {D : Ends} {kk : Unit → Env → Option SO} {Qt : St → Hp → Prop} (s : SE C W ti fx) (m : Mt C π e σ w) (r : Rp C.K w.G x d) (h : PostS C W π w (bndS (putAtD i fx d e) kk) D)
    (hk : ∀ e2 w2, Mt C π e2 σ w2 → Frm w w2 → PostS C W π w2 (kk () e2) D → Qt σ w2.H) : gSub (tVar i) ti rSetD x σ w.H Qt := by
  unfold putAtD at h
  cases q : at? e i with
  | none => rw [q] at h; exact h.elim
  | some b =>
    rw [q] at h
    obtain ⟨v, h1, h2⟩ := m.bok i b q
    refine ⟨v, h1, ?_⟩
    have h' : PostS C W π w (bndS (bnd (fx e) fun o e1 => match res e1 o, at? e1 i with
      | some k, some (.od ds) => if isK k = true ∧ ds.length < big then some (.ok () (e1.set i (some (.od (putD ds k d))))) else none
      | _, _ => none) kk) D := h
    rw [bndS_bnd] at h'
    refine s π e σ w _ m (h'.bnd fun o1 e1 v1 w1 m1 f1 k1 h3 => ?_)
    split at h3
    · rename_i kd ds q1 q2
      split at h3
      · rename_i hc
        obtain ⟨p, ks, g1, g2, g3, g4, g5⟩ := m1.mutD (ds' := putD ds kd d) q2
        rw [h1] at g1
        cases g1
        have rk := kV_rq (res_sound m1 k1 q1) hc.1
        subst rk
        have rp := g4.put (keyD kd) (r.mono f1.g)
        rw [kP_keyD hc.1] at rp
        obtain ⟨m2, f2⟩ := g5 _ rp
        exact ⟨p, _, rfl, DPut.k g2 (by rw [g4.length]; exact Nat.lt_of_lt_of_le hc.2 big_le), hk _ _ m2 (f1.trans f2) (h3.from (f1.trans f2))⟩
      · exact h3.elim
    · exact h3.elim
theorem ss_putD {C : Cc} {te ti : TE} {i : Nat} (sv : SE C W te fv) (sx : SE C W ti fx) : SS C W pn (tAsg te (gSub (tVar i) ti rSetD)) (sPutD i fx fv) := fun π e σ w D hp m h => by
  refine sv π e σ w _ m (h.bnd fun o1 e1 v1 w1 m1 f1 k1 h1 => ?_)
  cases q : fz e1 o1 with
  | none => rw [q] at h1; exact h1.elim
  | some pr =>
    rw [q] at h1
    obtain ⟨w2, m2, f2, eH, rp⟩ := fz_sound (e' := pr.2) m1 f1 k1 q
    rw [← eH]
    exact put_soundD sx m2 rp (h1.from f2) fun e3 w3 m3 f3 h3 => h3 σ w3 m3 (.refl _)
theorem vs_putD {x : Str} {py ps : Pos} (hu : X.A.units + 1 < cLine) (i : Nat) (hx : VE X ρ W b fx) (hv : VE X ρ W a fv) (hN : X.N[i]? = some x := by rfl) (hvs : Vis X.env.scope x := by first | exact Or.inl rfl | exact Or.inr (Or.inl rfl) | exact Or.inr (Or.inr rfl)) (hd : (x == ("__debug__" : Str)) = false := by decide)
    (hcd : (x == ("__classdict__" : Str)) = false := by decide) (hs : swapsWithSole [.Subscript (.Name x py) b ps] a pos.line X.env = pure false := by rfl) (hw : swappedStores [.Subscript (.Name x py) b ps] a X.env = pure none := by rfl)
    (h1 : (assignEach [.Subscript (.Name x py) b ps] X.env).map (·.2) = [assign (.Subscript (.Name x py) b ps) X.env] := by rfl)
    (ha : ∀ v, assign (.Subscript (.Name x py) b ps) X.env v = (do
      let ov ← holding [v] (eval (.Name x py) X.env)
      let iv ← holding [v, ov] (eval b X.env)
      standAt ps
      holding [v, ov, iv] (setItem ov iv v)
      release [v, ov, iv] []) := by intro _; rfl) : VS X ρ W pn (.Assign [.Subscript (.Name x py) b ps] a pos) (sPutD i fx fv) := by
  obtain ⟨t, p, s⟩ := hx
  obtain ⟨t2, p2, s2⟩ := hv
  exact ⟨_, ps_asg p2 (pg_sub (pe_var hN hvs hd hcd) p (set_dict hu) ha) hs hw h1, ss_putD s2 s⟩
end
end VL
set_option maxRecDepth 100000
namespace VL
open PySem L2 PySem.Spec PyProof.Rows
end VL
set_option maxRecDepth 100000
namespace VL
open PySem L2 PySem.Spec PyProof.Rows
end VL
set_option maxRecDepth 100000
namespace VL
open PySem L2 PySem.Spec PyProof.Rows
end VL
set_option maxRecDepth 100000
namespace VL
open PySem L2 PySem.Spec PyProof.Rows
open PySem.W (AllAlike Sortable EachIs dataKind sortVals sortingHeap copyHeap alike alikeAll)
theorem asInts_some : ∀ {es : List PyData} {ns : List Int}, asInts es = some ns → es = ns.map .int := fun {es ns} h => by
  induction es generalizing ns with
  | nil => cases h; rfl
  | cons e es ih =>
    cases e with
    | int i =>
      have h' : ∃ a, asInts es = some a ∧ i :: a = ns := by simpa [asInts] using h
      obtain ⟨a, e1, e2⟩ := h'
      subst e2
      rw [ih e1]
      rfl
    | _ => simp [asInts] at h
section
variable {X : Cx} {ρ : Nat → Res}
theorem lay_ints : ∀ ns : List Int, PyData.canLayAll0 (ns.map .int) = true
  | [] => by simp [PyData.canLayAll0]
  | n :: ns => by
    show PyData.canLayAll0 (.int n :: ns.map .int) = true
    simp [PyData.canLayAll0, PyData.canLay0, lay_ints ns]
end
end VL
set_option maxRecDepth 100000
namespace VW
open PySem L2 PyProof.Rows
/-- the first n places from x on -/
def trip (m : Nat) : Nat → Nat → List Nat
  | 0, _ => []
  | n + 1, x => x :: trip m n ((x * 5 + 1) % (m + 1))
theorem trip_at (m : Nat) : ∀ (n k a : Nat), k < n → (trip m n (lcgN m a))[k]? = some (lcgN m (a + k))
  | 0, _, _, h => absurd h (Nat.not_lt_zero _)
  | n + 1, 0, a, _ => rfl
  | n + 1, k + 1, a, h => by
    show (trip m n (lcgN m (a + 1)))[k]? = _
    rw [trip_at m n k (a + 1) (by omega), show a + 1 + k = a + (k + 1) by omega]
def whole511 : Bool := (List.range 512).all fun j => (trip 511 512 0).contains j
theorem whole511_ok : whole511 = true := by decide +kernel
theorem home511 : lcgN 511 512 = 0 := by decide +kernel
/-- from each place each other is met within one round -/
def Meets (m : Nat) : Prop := ∀ i j, i ≤ m → j ≤ m → ∃ k, k ≤ m ∧ lcgI m i k = j
theorem meets511 : Meets 511 := by
  have at_ : ∀ j, j ≤ 511 → ∃ b, b ≤ 511 ∧ lcgN 511 b = j := fun j hj => by
    have h1 := List.all_eq_true.mp whole511_ok j (List.mem_range.mpr (by omega))
    have h2 : j ∈ trip 511 512 0 := by simpa using h1
    obtain ⟨b, hb, e⟩ := List.getElem_of_mem h2
    have hl : ∀ n x, (trip 511 n x).length = n := fun n => by
      induction n with
      | zero => exact fun _ => rfl
      | succ n ih => exact fun x => by rw [trip, List.length_cons, ih]
    rw [hl] at hb
    have h3 := trip_at 511 512 b 0 hb
    have h4 : (trip 511 512 0)[b]? = some j := by rw [List.getElem?_eq_getElem (by rw [hl]; exact hb), e]
    have h5 : trip 511 512 (lcgN 511 0) = trip 511 512 0 := rfl
    rw [h5, h4, Nat.zero_add] at h3
    exact ⟨b, by omega, (Option.some.inj h3).symm⟩
  have round : ∀ k, lcgN 511 (512 + k) = lcgN 511 k := fun k => by
    induction k with
    | zero => exact home511
    | succ k ih =>
      show (lcgN 511 (512 + k) * 5 + 1) % 512 = (lcgN 511 k * 5 + 1) % 512
      rw [ih]
  intro i j hi hj
  obtain ⟨a, ha, rfl⟩ := at_ i hi
  obtain ⟨b, hb, rfl⟩ := at_ j hj
  by_cases h : a ≤ b
  · exact ⟨b - a, by omega, by rw [lcgN_add, show a + (b - a) = b by omega]⟩
  · exact ⟨512 + b - a, by omega, by rw [lcgN_add, show a + (512 + b - a) = 512 + b by omega, round]⟩
/-- the masks that come -/
structure Mk (m : Nat) : Prop where
  four : m = 7 ∨ m = 31 ∨ m = 127 ∨ m = 511
  odd : m % 2 = 1
  le : m ≤ 511
  meets : Meets m
theorem mk_kit {m : Nat} (h : MaskOk m) : Mk m := ⟨by rcases h with h | h | h <;> omega, mask_odd h, by rcases h with h | h | h <;> omega, fun i j hi hj => lcgI_all h hi hj⟩
theorem mk31 : Mk 31 := mk_kit (.inr (.inl rfl))
theorem mk127 : Mk 127 := mk_kit (.inr (.inr rfl))
theorem mk511 : Mk 511 := ⟨.inr (.inr (.inr rfl)), rfl, Nat.le_refl _, meets511⟩
section
variable {m : Nat} {t : SetTable} {hs : List Int} {h : Int} {K : Nat}
theorem in_table : way m h K ≤ m := by
  have h1 : SetTable.bits h % (m + 1) ≤ m := Nat.le_of_lt_succ (Nat.mod_lt _ (Nat.succ_pos _))
  obtain ⟨r1, r2, _⟩ := runEnd_bd h1
  have := nth_in (m := m) K (runAt m (SetTable.bits h % (m + 1)) (SetTable.bits h)) (by
    show SetTable.bits h % (m + 1) + (SetTable.runEnd m (SetTable.bits h % (m + 1)) - SetTable.bits h % (m + 1)) ≤ m
    omega)
  exact Nat.le_trans (Nat.le_add_right _ _) this
/-- a run that begins at a place -/
theorem begins (W : Mk m) (h : Int) {j : Nat} (hj : j ≤ m) : ∃ n, n ≤ m + 12 ∧ runI m (SetTable.bits h) n = j := by
  obtain ⟨k, hk, e⟩ := W.meets _ _ (runI_le m (SetTable.bits h) 12) hj
  exact ⟨12 + k, by omega, (runI_tail (bits_lt h) k).trans e⟩
/-- the first step that has what some place has -/
theorem least_step {p : Nat → Prop} (W : Mk m) (h : Int) {j : Nat} (hj : j ≤ m) (hp : p j) : ∃ K, K < 10 * SetTable.turns m ∧ p (way m h K) ∧ ∀ k, k < K → ¬ p (way m h k) := by
  obtain ⟨n, hn, e⟩ := begins W h hj
  obtain ⟨k, hk, e2⟩ := run_nth m (SetTable.bits h) n
  have e3 : way m h k = j := by
    show (nth m (runAt m (SetTable.bits h % (m + 1)) (SetTable.bits h)) k).j = j
    rw [e2]
    exact e
  obtain ⟨K, h1, h2, h3⟩ := st_least (p := fun k => p (way m h k)) k (show p (way m h k) by rw [e3]; exact hp)
  exact ⟨K, Nat.lt_of_le_of_lt h1 (by unfold SetTable.turns; omega), h2, h3⟩
/-- what has a hash lies on its way with no gap before it -/
structure Fnd (t : SetTable) (hs : List Int) : Prop where
  msk : Mk t.mask
  up : Ris t.place.toList
  none : t.dummies = #[]
  len : t.place.toList.length = hs.length
  inn : ∀ x ∈ t.place.toList, x ≤ t.mask
  way : ∀ (i : Nat) (h : Int) (j : Nat), hs[i]? = some h → t.place.toList[i]? = some j → ∃ k, way t.mask h k = j ∧ ∀ k', k' < k → L2.way t.mask h k' ∈ t.place.toList
theorem Fnd.gap (T : Fnd t hs) (hl : hs.length ≤ t.mask) (h : Int) : ∃ K, K < 10 * SetTable.turns t.mask ∧ L2.way t.mask h K ∉ t.place.toList ∧ ∀ k, k < K → L2.way t.mask h k ∈ t.place.toList := by
  obtain ⟨j, hj, hn⟩ := st_missing t.place.toList (t.mask + 1) (by rw [T.len]; omega)
  obtain ⟨K, h1, h2, h3⟩ := least_step (p := fun x => x ∉ t.place.toList) T.msk h (Nat.le_of_lt_succ hj) hn
  exact ⟨K, h1, h2, fun k hk => Classical.not_not.mp (h3 k hk)⟩
/-- what has the hash lies before the gap -/
theorem Fnd.ahead (T : Fnd t hs) (hK : L2.way t.mask h K ∉ t.place.toList) {i j : Nat} (hi : hs[i]? = some h) (hj : t.place.toList[i]? = some j) : ∃ k, k < K ∧ L2.way t.mask h k = j := by
  obtain ⟨k, e, g⟩ := T.way i h j hi hj
  refine ⟨k, Nat.lt_of_not_le fun hle => ?_, e⟩
  rcases Nat.lt_or_eq_of_le hle with c | c
  · exact hK (g K c)
  · rw [c, e] at hK
    exact hK (List.mem_of_getElem? hj)
/-- one put into the gap -/
theorem Fnd.put (T : Fnd t hs) (hK : L2.way t.mask h K ∉ t.place.toList) (hb : ∀ k, k < K → L2.way t.mask h k ∈ t.place.toList) :
    ∃ p, t.put (L2.way t.mask h K) = ((t.put (L2.way t.mask h K)).1, p) ∧ p ≤ hs.length ∧ Fnd (t.put (L2.way t.mask h K)).1 (hs.take p ++ h :: hs.drop p) ∧
      (t.put (L2.way t.mask h K)).1.mask = t.mask ∧ (t.put (L2.way t.mask h K)).1.led = t.led ∧ (t.put (L2.way t.mask h K)).1.plain = t.plain ∧ (t.put (L2.way t.mask h K)).1.fill = hs.length + 1 := by
  have hin : L2.way t.mask h K ≤ t.mask := in_table
  generalize hj : L2.way t.mask h K = j at hK hin ⊢
  have hp : SetTable.below t.place j ≤ t.place.toList.length := by
    obtain ⟨c, _, _⟩ := below_cut T.up j
    rwa [Array.length_toList]
  have hp' : SetTable.below t.place j ≤ hs.length := T.len ▸ hp
  have e := put_place t j
  have sub : ∀ x, x ∈ t.place.toList → x ∈ (t.put j).1.place.toList := fun x hx => by rw [e]; exact mem_ins.mpr (.inr hx)
  have hlen : (t.put j).1.place.toList.length = hs.length + 1 := by rw [e, len_ins _ hp, T.len]
  refine ⟨SetTable.below t.place j, rfl, hp', ⟨T.msk, ris_insert T.up fun z => hK (List.mem_of_getElem? (by rw [Array.getElem?_toList]; exact z)), put_dm T.none j, by rw [hlen, len_ins _ hp'], fun x hx => ?_, fun i h' j' h1 h2 => ?_⟩, rfl, rfl, rfl, ?_⟩
  · rw [e] at hx
    rcases mem_ins.mp hx with rfl | hx
    · exact hin
    · exact T.inn x hx
  · show ∃ k, L2.way t.mask h' k = j' ∧ ∀ k', k' < k → L2.way t.mask h' k' ∈ (t.put j).1.place.toList
    rw [tins_get hs hp'] at h1
    rw [e, tins_get _ hp] at h2
    have old : ∀ i', hs[i']? = some h' → t.place.toList[i']? = some j' → ∃ k, L2.way t.mask h' k = j' ∧ ∀ k', k' < k → L2.way t.mask h' k' ∈ (t.put j).1.place.toList := fun i' a b => by
      obtain ⟨k, q, r⟩ := T.way i' h' j' a b
      exact ⟨k, q, fun k' hk' => sub _ (r k' hk')⟩
    split at h1
    · rename_i c
      rw [if_pos c] at h2
      exact old i h1 h2
    · rename_i c
      rw [if_neg c] at h2
      split at h1
      · rename_i d
        rw [if_pos d] at h2
        cases h1
        cases h2
        exact ⟨K, hj, fun k' hk' => sub _ (hb k' hk')⟩
      · rename_i d
        rw [if_neg d] at h2
        exact old (i - 1) h1 h2
  · show (t.put j).1.place.size + (t.put j).1.dummies.size = _
    rw [put_dm T.none j, ← Array.length_toList, hlen]
    rfl
/-- the first free place of the way is what is found -/
theorem free_at (W : Mk m) (owner : Array (Option Nat)) (h : Int) {j : Nat} (hj : j ≤ m) (hf : oAt owner j = none) :
    ∃ K, SetTable.layClean.free m owner (SetTable.turns m) (SetTable.bits h % (m + 1)) (SetTable.bits h) = some (way m h K) ∧ oAt owner (way m h K) = none ∧ ∀ k, k < K → oAt owner (way m h k) ≠ none := by
  obtain ⟨n, hn, e⟩ := begins W h hj
  have e1 : way m h (off m (SetTable.bits h % (m + 1)) (SetTable.bits h) n) = j := by
    show (nth m _ _).j = j
    rw [nth_off, itL_run]
    exact e
  obtain ⟨K, k1, k2, k3⟩ := st_least (p := fun k => oAt owner (way m h k) = none) _ (show oAt owner (way m h (off m (SetTable.bits h % (m + 1)) (SetTable.bits h) n)) = none by rw [e1]; exact hf)
  refine ⟨K, free_spec m owner _ n _ _ K (by unfold SetTable.turns; omega) k1 (fun k hk => ?_) (by rw [show oAt owner (nth m _ K).j = none from k2]; rfl), k2, k3⟩
  cases q : oAt owner (nth m (runAt m (SetTable.bits h % (m + 1)) (SetTable.bits h)) k).j with
  | none => exact absurd q (k3 k hk)
  | some _ => rfl
/-- one more laid -/
theorem lay_one (W : Mk m) {done : List Int} {owner : Array (Option Nat)} (O : Own m done owner) (hl : done.length ≤ m) (h : Int) :
    ∃ owner', stepF m (some (owner, done.length)) h = some (owner', (done ++ [h]).length) ∧ Own m (done ++ [h]) owner' := by
  obtain ⟨ps, p1, p2⟩ := O.ps
  obtain ⟨j0, h0, n0⟩ := st_missing ps (m + 1) (by omega)
  have f0 : oAt owner j0 = none := Classical.byContradiction fun z => n0 (p2 j0 (Nat.le_of_lt_succ h0) z)
  obtain ⟨K, e1, e2, e3⟩ := free_at W owner h (Nat.le_of_lt_succ h0) f0
  have hm : way m h K ≤ m := in_table
  generalize hj : way m h K = j at e1 e2 hm
  have new : oAt (owner.setIfInBounds j (some done.length)) j = some done.length := oAt_set_self _ (by rw [O.sz]; exact Nat.lt_succ_of_le hm)
  have old : ∀ i, oAt owner i ≠ none → i ≠ j ∧ oAt (owner.setIfInBounds j (some done.length)) i = oAt owner i := fun i hi => by
    have : i ≠ j := fun z => hi (z ▸ e2)
    exact ⟨this, oAt_set_ne _ this⟩
  refine ⟨_, (stepF_some e1).trans (by rw [List.length_append]; rfl), ⟨by rw [Array.size_setIfInBounds]; exact O.sz, fun i k hi q => ?_, fun k hk => ?_, j :: ps, by rw [List.length_cons, List.length_append, p1]; rfl, fun i hi q => ?_⟩⟩
  · by_cases c : i = j
    · subst c
      rw [new] at q
      cases q
      refine ⟨h, K, by rw [List.getElem?_append_right (Nat.le_refl _), Nat.sub_self]; rfl, hj, fun k' hk' => ?_⟩
      rw [(old _ (e3 k' hk')).2]
      exact e3 k' hk'
    · rw [oAt_set_ne _ c] at q
      obtain ⟨h', K', a1, a2, a3⟩ := O.at_ i k hi q
      refine ⟨h', K', by rw [List.getElem?_append_left (List.getElem?_eq_some_iff.mp a1).1]; exact a1, a2, fun k' hk' => ?_⟩
      rw [(old _ (a3 k' hk')).2]
      exact a3 k' hk'
  · rw [List.length_append] at hk
    by_cases c : k < done.length
    · obtain ⟨i, hi, q⟩ := O.all k c
      exact ⟨i, hi, (old i (by rw [q]; exact fun z => nomatch z)).2.trans q⟩
    · have : k = done.length := by
        have : k < done.length + 1 := hk
        omega
      exact ⟨j, hm, this ▸ new⟩
  · by_cases c : i = j
    · rw [c]; exact List.mem_cons_self
    · rw [oAt_set_ne _ c] at q
      exact List.mem_cons_of_mem _ (p2 i hi q)
theorem lay_all (W : Mk m) : ∀ (rest done : List Int) (owner : Array (Option Nat)), Own m done owner → done.length + rest.length ≤ m →
    ∃ owner', rest.foldl (stepF m) (some (owner, done.length)) = some (owner', (done ++ rest).length) ∧ Own m (done ++ rest) owner'
  | [], done, owner, O, _ => ⟨owner, by rw [List.append_nil]; rfl, by rw [List.append_nil]; exact O⟩
  | h :: rest, done, owner, O, hl => by
    have hl' : done.length + (rest.length + 1) ≤ m := hl
    obtain ⟨o1, e1, O1⟩ := lay_one W O (by omega) h
    obtain ⟨o2, e2, O2⟩ := lay_all W rest (done ++ [h]) o1 O1 (by rw [List.length_append]; show done.length + 1 + _ ≤ _; omega)
    have e : done ++ [h] ++ rest = done ++ h :: rest := by rw [List.append_assoc]; rfl
    rw [e] at e2 O2
    exact ⟨o2, by rw [List.foldl_cons, e1, e2], O2⟩
theorem lay_ok (W : Mk m) {hs : Array Int} (hn : hs.size ≤ m) : ∃ owner, SetTable.layClean m hs = some owner ∧ Own m hs.toList owner := by
  obtain ⟨owner, e, O⟩ := lay_all W hs.toList [] _ (Own.init m) (by rw [Array.length_toList]; show 0 + hs.size ≤ m; omega)
  rw [List.nil_append] at O
  refine ⟨owner, ?_, O⟩
  rw [layClean_eq, show (some (Array.replicate (m + 1) none, 0) : Option (Array (Option Nat) × Nat)) = some (Array.replicate (m + 1) none, ([] : List Int).length) from rfl, e]
  rfl
/-- the live places and who lies there -/
theorem live_len {owner : Array (Option Nat)} {hs : Array Int} (O : Own m hs.toList owner) : (liveOf m owner).length = hs.size ∧ Ris ((liveOf m owner).map (·.1)) ∧ ((liveOf m owner).map (·.2)).Perm (List.range hs.size) := by
  have up : Ris ((liveOf m owner).map (·.1)) := (ris_live (fun j => owner.getD j none) (List.range (m + 1)) (by unfold Ris; exact List.pairwise_lt_range)).1
  obtain ⟨ps, p1, p2⟩ := O.ps
  have all : ∀ k ∈ List.range hs.size, k ∈ (liveOf m owner).map (·.2) := fun k hk => by
    obtain ⟨j, b1, b2⟩ := O.all k (by rw [Array.length_toList]; exact List.mem_range.mp hk)
    exact List.mem_map.mpr ⟨(j, k), (mem_live O.sz).mpr ⟨b1, b2⟩, rfl⟩
  have nd : ((liveOf m owner).map (·.1)).Nodup := by
    unfold Ris at up
    exact List.Pairwise.imp (fun h => Nat.ne_of_lt h) up
  have le1 := nat_nodup_len ((liveOf m owner).map (·.1)) ps nd fun x hx => by
    obtain ⟨⟨y, k⟩, hq, rfl⟩ := List.mem_map.mp hx
    obtain ⟨b1, b2⟩ := (mem_live O.sz).mp hq
    exact p2 y b1 (by rw [b2]; exact fun z => nomatch z)
  have le2 := nat_nodup_len (List.range hs.size) _ List.nodup_range all
  rw [List.length_map, p1, Array.length_toList] at le1
  rw [List.length_map, List.length_range] at le2
  have e : (liveOf m owner).length = hs.size := Nat.le_antisymm le1 le2
  exact ⟨e, up, perm_range _ _ (by rw [List.length_map, e]) fun k hk => all k (List.mem_range.mpr hk)⟩
theorem relaid_fnd (t : SetTable) {hs : Array Int} {wanted : Nat} (hw : SetTable.sizeAbove wanted - 1 = m) (W : Mk m) (hn : hs.size ≤ m) :
    ∃ t' order, t.relaid hs wanted = some (t', order) ∧ order.toList.Perm (List.range hs.size) ∧ Fnd t' (order.toList.map fun i => hs.getD i 0) ∧ t'.mask = m ∧ t'.led = t.led ∧ t'.plain = t.plain := by
  obtain ⟨owner, e, O⟩ := lay_ok W hn
  obtain ⟨hl, up, pm⟩ := live_len O
  refine ⟨tabOf t m owner, ((liveOf m owner).map (·.2)).toArray, by rw [relaid_eq, hw, e]; rfl, pm, ⟨W, up, rfl, ?_, fun x hx => ?_, fun i h j h1 h2 => ?_⟩, rfl, rfl, rfl⟩
  · show ((liveOf m owner).map (·.1)).length = (((liveOf m owner).map (·.2)).map fun i => hs.getD i 0).length
    rw [List.length_map, List.length_map, List.length_map]
  · have hx' : x ∈ (liveOf m owner).map (·.1) := hx
    obtain ⟨⟨y, k⟩, hq, rfl⟩ := List.mem_map.mp hx'
    exact ((mem_live O.sz).mp hq).1
  · have h1' : (((liveOf m owner).map (·.2)).map fun i => hs.getD i 0)[i]? = some h := h1
    have h2' : ((liveOf m owner).map (·.1))[i]? = some j := h2
    rw [List.getElem?_map, List.getElem?_map] at h1'
    rw [List.getElem?_map] at h2'
    obtain ⟨⟨y, k⟩, hq⟩ : ∃ q, (liveOf m owner)[i]? = some q := by
      cases hq : (liveOf m owner)[i]? with
      | none => rw [hq] at h2'; cases h2'
      | some q => exact ⟨q, rfl⟩
    rw [hq] at h1' h2'
    have ej : y = j := Option.some.inj h2'
    have eh : hs.getD k 0 = h := Option.some.inj h1'
    subst ej
    obtain ⟨b1, b2⟩ := (mem_live O.sz).mp (List.mem_of_getElem? hq)
    obtain ⟨h0, K, a1, a2, a3⟩ := O.at_ y k b1 b2
    have e0 : h0 = h := by
      rw [← eh, Array.getD_eq_getD_getElem?, ← Array.getElem?_toList, a1]
      rfl
    subst e0
    refine ⟨K, a2, fun k' hk' => ?_⟩
    cases q : oAt owner (way m h0 k') with
    | none => exact absurd q (a3 k' hk')
    | some x => exact List.mem_map.mpr ⟨(way m h0 k', x), (mem_live O.sz).mpr ⟨in_table, q⟩, rfl⟩
end
end VW
set_option maxRecDepth 100000
namespace VW
open PySem L2 PySem.Spec PyProof.Rows
/-- the state of a search, so many steps on -/
abbrev pr (m : Nat) (h : Int) (c : Nat) : SetTable.Probe := nth m (runAt m (SetTable.bits h % (m + 1)) (SetTable.bits h)) c
theorem pr_on (m : Nat) (h : Int) (c q : Nat) : nth m (pr m h c) q = pr m h (c + q) := (nth_add m c _ q).symm
theorem pr_clean (m : Nat) (h : Int) : ∀ c, (pr m h c).dummy = none
  | 0 => rfl
  | c + 1 => by
    have ih := pr_clean m h c
    show (nth m _ (c + 1)).dummy = none
    rw [nth_succ]
    unfold adv
    split
    · exact ih
    · exact ih
section
variable {P : Program} {w : World} {A : Around} {E : Value → Shared → Prop} {s : Shared} {a : Addr} {L : List (Addr × List Int)} {es : Array (Int × Value)} {ep : Nat} {t : SetTable}
/-- the set at a has the tuples L, in the order of their places -/
structure Tups (P : Program) (w : World) (h : Heap) (a : Addr) (L : List (Addr × List Int)) (es : Array (Int × Value)) (ep : Nat) (t : SetTable) : Prop where
  obj : ∃ o, h.get? a = some o ∧ o.ExactSet ∧ o.data = .set es ep t
  row : es.toList = rowsOf P w L
  fnd : Fnd t (L.map fun p => thash P w p.2)
  once : (L.map (·.2)).Nodup
  each : ∀ p ∈ L, IsT P w h p.2 p.1
  plain : t.plain = true
  room : L.length * 5 < t.mask * 3
theorem Tups.size (R : Tups P w s.heap a L es ep t) : es.size = L.length := by
  rw [← Array.length_toList, R.row]
  unfold rowsOf
  rw [List.length_map]
theorem Tups.places (R : Tups P w s.heap a L es ep t) : t.place.toList.length = L.length := by rw [R.fnd.len, List.length_map]
theorem fits_of (hd : t.dummies = #[]) (hz : t.place.size = es.size) (hl : es.size ≤ t.mask) : t.fits es.size = true := by
  unfold SetTable.fits SetTable.fill
  rw [hd, Bool.and_eq_true, beq_iff_eq, decide_eq_true_eq]
  exact ⟨hz, by rw [hz]; exact hl⟩
theorem Tups.fits (R : Tups P w s.heap a L es ep t) : t.fits es.size = true := by
  have h1 := R.places
  have h2 := R.size
  have h3 := R.room
  rw [Array.length_toList] at h1
  exact fits_of R.fnd.none (h1.trans h2.symm) (by omega)
theorem Tups.at (R : Tups P w s.heap a L es ep t) {i : Nat} {p : Addr × List Int} (h : L[i]? = some p) : es[i]? = some (thash P w p.2, Value.ref p.1) := by
  rw [← Array.getElem?_toList, R.row]
  unfold rowsOf
  rw [List.getElem?_map, h]
  rfl
theorem steady (h : Mk t.mask) : ¬ t.gaveWay = true := by
  unfold SetTable.gaveWay
  rw [h.odd]
  decide
/-- the search for a key, from some step of its way on -/
theorem seek (R : Tups P w s.heap a L es ep t) {x : Addr} {k : List Int} (hx : IsT P w s.heap k x) (hu : A.units < cLine) {K : Nat} (hf : K < 10 * SetTable.turns t.mask)
    (gap : L2.way t.mask (thash P w k) K ∉ t.place.toList) (full : ∀ c, c < K → L2.way t.mask (thash P w k) c ∈ t.place.toList) {Q : SetFound → Shared → Prop}
    (yes : k ∈ L.map (·.2) → Q (.there none) s) (no : k ∉ L.map (·.2) → Q (.free (L2.way t.mask (thash P w k) K) false) s) :
    ∀ (fuel c : Nat) (at_ : Option SetTable.Probe), at_.getD (t.probeStart (thash P w k)) = pr t.mask (thash P w k) c → c ≤ K → K < c + fuel →
      (∀ (i : Nat) p, L[i]? = some p → p.2 = k → ∃ b, c ≤ b ∧ b < K ∧ t.place.toList[i]? = some (L2.way t.mask (thash P w k) b)) → wpAny (model P w) A (setSearchFrom a (.ref x) (thash P w k) true fuel at_) Q E s := by
  obtain ⟨o, ho, hex, hd⟩ := R.obj
  have hashes : ∀ (i : Nat) p, L[i]? = some p → (fun i => (es[i]?.map (·.1)).getD 0) i = thash P w p.2 := fun i p hp => by
    show (es[i]?.map (·.1)).getD 0 = _
    rw [R.at hp]
    rfl
  intro fuel
  induction fuel with
  | zero => intro c at_ _ h1 h2; exact absurd h2 (by omega)
  | succ fuel ih =>
    intro c at_ hat h1 h2 hre
    rw [setSearchFrom_succ]
    refine wpAny_bind (wpAny_setState_of ho hd R.fits ?_)
    dsimp only
    refine wp_if_neg (steady R.fnd.msk) ?_
    have jj : ∀ q, (nth t.mask (pr t.mask (thash P w k) c) q).j = L2.way t.mask (thash P w k) (c + q) := fun q => congrArg SetTable.Probe.j (pr_on _ _ c q)
    have met := go_spec t R.fnd.up R.fnd.none (fun i => (es[i]?.map (·.1)).getD 0) (thash P w k) (10 * SetTable.turns t.mask) (K - c) (pr t.mask (thash P w k) c) (pr_clean _ _ c) (by omega)
      (fun q hq => by rw [jj]; exact full (c + q) (by omega)) (by rw [jj, show c + (K - c) = K by omega]; exact gap)
    rcases met with ⟨q, i, q1, q2, q3, q4, q5⟩ | ⟨q4, q5⟩
    · -- something with the hash lies on the way
      have hp : t.probe (fun i => (es[i]?.map (·.1)).getD 0) (thash P w k) (at_.getD (t.probeStart (thash P w k))) = some (.candidate (L2.way t.mask (thash P w k) (c + q)) i (pr t.mask (thash P w k) (c + (q + 1)))) := by
        rw [hat, ← jj, ← pr_on]
        exact q5
      rw [hp]
      dsimp only
      rw [jj] at q2
      have il : i < L.length := by
        rw [← R.places]
        exact (List.getElem?_eq_some_iff.mp q2).1
      obtain ⟨p, hLi⟩ : ∃ p, L[i]? = some p := ⟨_, List.getElem?_eq_getElem il⟩
      have pm : p ∈ L := List.mem_of_getElem? hLi
      have live : t.slot (L2.way t.mask (thash P w k) (c + q)) = .live i := slot_live R.fnd.up q2
      have goon : wpAny (model P w) A (searchRest a (.ref x) (thash P w k) true fuel es t (L2.way t.mask (thash P w k) (c + q)) i (pr t.mask (thash P w k) (c + (q + 1)))) Q E s := by
        unfold searchRest
        rw [R.at hLi]
        dsimp only
        refine wpAny_bind (wpAny_holding (wpAny_eqBool_tuple hu (R.each p pm) hx ?_))
        refine wpAny_bind (wpAny_setState_of ho hd R.fits ?_)
        dsimp only
        by_cases e : p.2 = k
        · exact wp_if_pos (by simp [e]) (wpAny_pure (yes (List.mem_map.mpr ⟨p, pm, e⟩)))
        · refine wp_if_neg (by simp [e]) ?_
          rw [sameMem]
          simp only [if_true, live, R.at hLi]
          refine wpAny_bind (wpAny_isSame_ref_self (wpAny_bind (wpAny_pure ?_)))
          simp only [if_true]
          refine wp_if_neg (by simp [e]) ?_
          refine ih (c + (q + 1)) (some (pr t.mask (thash P w k) (c + (q + 1)))) rfl (by omega) (by omega) fun i0 p0 g1 g2 => ?_
          obtain ⟨b, b1, b2, b3⟩ := hre i0 p0 g1 g2
          refine ⟨b, Nat.lt_of_not_le fun hle => ?_, b2, b3⟩
          have hle' : b ≤ c + q := hle
          have hb : b - c < q ∨ b = c + q := by omega
          rcases hb with hb | hb
          · exact q4 (b - c) i0 hb (by rw [jj, show c + (b - c) = b by omega]; exact b3) ((hashes i0 p0 g1).trans (congrArg (thash P w) g2))
          · subst hb
            have := slot_live R.fnd.up b3
            rw [live] at this
            cases this
            rw [hLi] at g1
            cases g1
            exact e g2
      by_cases hl : t.led = true
      · exact wp_if_neg (by simp [hl]) goon
      · refine wp_if_pos (by simp [hl]) (wpAny_bind (seen_tup hx (fun y hy => ?_) (wp_if_neg (by decide) goon)))
        obtain ⟨e, he, rfl⟩ := List.mem_map.mp hy
        have he' : e ∈ es.toList := by
          have : e ∈ es ∧ e.1 = thash P w k := by simpa using he
          simpa using this.1
        rw [R.row] at he'
        obtain ⟨p2, hp2, rfl⟩ := List.mem_map.mp he'
        exact ⟨p2.2, p2.1, rfl, R.each p2 hp2⟩
    · -- the gap
      have hp : t.probe (fun i => (es[i]?.map (·.1)).getD 0) (thash P w k) (at_.getD (t.probeStart (thash P w k))) = some (.empty (L2.way t.mask (thash P w k) K) none) := by
        rw [hat, show L2.way t.mask (thash P w k) K = (nth t.mask (pr t.mask (thash P w k) c) (K - c)).j by rw [jj, show c + (K - c) = K by omega]]
        exact q5
      rw [hp]
      refine wpAny_pure (no fun hm => ?_)
      obtain ⟨p0, g0, g2⟩ := List.mem_map.mp hm
      obtain ⟨i0, g1⟩ := List.getElem?_of_mem g0
      obtain ⟨b, b1, b2, b3⟩ := hre i0 p0 g1 g2
      exact q4 (b - c) i0 (by omega) (by rw [jj, show c + (b - c) = b by omega]; exact b3) ((hashes i0 p0 g1).trans (congrArg (thash P w) g2))
theorem seek_all (R : Tups P w s.heap a L es ep t) {x : Addr} {k : List Int} (hx : IsT P w s.heap k x) (hu : A.units < cLine) {Q : SetFound → Shared → Prop} (yes : k ∈ L.map (·.2) → Q (.there none) s)
    (no : ∀ K, k ∉ L.map (·.2) → L2.way t.mask (thash P w k) K ∉ t.place.toList → (∀ c, c < K → L2.way t.mask (thash P w k) c ∈ t.place.toList) → Q (.free (L2.way t.mask (thash P w k) K) false) s) :
    wpAny (model P w) A (setSearch a (.ref x) (thash P w k) true) Q E s := by
  have h0 := R.room
  obtain ⟨K, h1, h2, h3⟩ := R.fnd.gap (by rw [List.length_map]; omega) (thash P w k)
  have h4 : 10 * SetTable.turns t.mask < 100000 := by
    have := R.fnd.msk.le
    unfold SetTable.turns
    omega
  refine seek R hx hu h1 h2 h3 yes (fun hn => no K hn h2 h3) 100000 0 none rfl (Nat.zero_le _) (by omega) fun i p hp hk => ?_
  have il : i < t.place.toList.length := by
    rw [R.places]
    exact (List.getElem?_eq_some_iff.mp hp).1
  have hj := List.getElem?_eq_getElem il
  obtain ⟨b, b1, b2⟩ := R.fnd.ahead h2 (i := i) (by rw [List.getElem?_map, hp, ← hk]; rfl) hj
  exact ⟨b, Nat.zero_le _, b1, by rw [hj, b2]⟩
/-- the sizes that come -/
theorem next_size (n : Nat) : (n = 5 → SetTable.sizeAbove (SetTable.grown n) = 32) ∧ (n = 19 → SetTable.sizeAbove (SetTable.grown n) = 128) ∧ (n = 77 → SetTable.sizeAbove (SetTable.grown n) = 512) :=
  ⟨fun h => by subst h; decide +kernel, fun h => by subst h; decide +kernel, fun h => by subst h; decide +kernel⟩
/-- what the tuples' set holds, its table perhaps too full -/
structure Laid (P : Program) (w : World) (h : Heap) (a : Addr) (L : List (Addr × List Int)) (es : Array (Int × Value)) (ep : Nat) (t : SetTable) : Prop where
  obj : ∃ o, h.get? a = some o ∧ o.ExactSet ∧ o.data = .set es ep t
  row : es.toList = rowsOf P w L
  fnd : Fnd t (L.map fun p => thash P w p.2)
  once : (L.map (·.2)).Nodup
  each : ∀ p ∈ L, IsT P w h p.2 p.1
  plain : t.plain = true
theorem grow {m wanted : Nat} (R : Laid P w s.heap a L es ep t) (hl : L.length ≤ t.mask) (hw : SetTable.sizeAbove wanted = m + 1) (W : Mk m) (hm : L.length * 5 < m * 3) {Q : Unit → Shared → Prop}
    (h : ∀ h' L' es' ep' t', Heap.SameBut a s.heap h' → Tups P w h' a L' es' ep' t' → L'.Perm L → Q () { s with heap := h' }) : wpAny (model P w) A (setRelay a wanted) Q E s := by
  obtain ⟨o, ho, hex, hd⟩ := R.obj
  have hz : es.size = L.length := by
    rw [← Array.length_toList, R.row]
    unfold rowsOf
    rw [List.length_map]
  have hpl : t.place.size = es.size := by
    have := R.fnd.len
    rw [Array.length_toList, List.length_map] at this
    rw [this, hz]
  obtain ⟨t', order, e1, e2, e3, e4, e5, e6⟩ := relaid_fnd t (hs := es.map (·.1)) (wanted := wanted) (m := m) (by rw [hw]; rfl) W (by rw [Array.size_map, hz]; omega)
  rw [Array.size_map, hz] at e2
  obtain ⟨L2, r1, r2, r3⟩ := order_rows L es order R.row e2
  rw [← r3] at e3
  have hsame : (order.filterMap (es[·]?)).size = es.size := by
    rw [← Array.length_toList, r1, hz, ← r2.length_eq]
    unfold rowsOf
    rw [List.length_map]
  have big : m + 1 ≤ sizeLine := by
    rw [sizeLine_eq]
    have := W.le
    omega
  rw [setRelay_eq]
  refine wpAny_bind (wpAny_setState_of ho hd (fits_of R.fnd.none hpl (by omega)) ?_)
  dsimp only
  refine wp_if_neg (by rw [hw]; omega) ?_
  rw [e1]
  dsimp only
  refine wpAny_bind (wp_if_neg (by rw [hsame]; simp) (wpAny_pure ?_))
  dsimp only
  refine wpAny_storeSet_of ho hd ?_ (by rw [hsame]; omega)
  have sb : Heap.SameBut a s.heap (s.heap.update a (Obj.putSet (order.filterMap (es[·]?)) t')) := Heap.SameBut.update ..
  exact h _ L2 _ (ep + 1) t' sb ⟨⟨_, store_at ho hd, hex, rfl⟩, r1, e3, (r2.map (·.2)).nodup_iff.mpr R.once, fun p hp => isT_same (R.each p (r2.mem_iff.mp hp)) ho hd sb, e6.trans R.plain, by rw [r2.length_eq, e4]; exact hm⟩ r2
theorem join (R : Tups P w s.heap a L es ep t) {x : Addr} {k : List Int} (hx : IsT P w s.heap k x) (hu : A.units < cLine) (few : L.length < 200) {Q : Bool → Shared → Prop}
    (h : ∀ b h' L' es' ep' t', Heap.SameBut a s.heap h' → Tups P w h' a L' es' ep' t' → (k ∈ L.map (·.2) → L' = L) → (k ∉ L.map (·.2) → L'.Perm ((x, k) :: L)) → Q b { s with heap := h' }) :
    wpAny (model P w) A (setAddHashed a (.ref x) (thash P w k)) Q E s := by
  obtain ⟨o, ho, hex, hd⟩ := R.obj
  have hz := R.size
  have hr := R.room
  unfold setAddHashed
  refine wpAny_holding ?_
  rw [show (100000 : Nat) = 99999 + 1 from rfl, setAddHashedIn_succ]
  refine wpAny_bind (wpAny_setState_of ho hd R.fits ?_)
  dsimp only
  refine wp_if_neg (by simp [byScan, Value.scannable]) ?_
  refine wpAny_bind (seek_all R hx hu (fun hm => wpAny_pure (h false s.heap L es ep t (Heap.SameBut.refl a s.heap) R (fun _ => rfl) fun z => absurd hm z)) fun K hm gap full => ?_)
  dsimp only
  refine wpAny_bind (wpAny_setState_of ho hd R.fits ?_)
  dsimp only
  obtain ⟨p, p1, p2, p3, p4, p5, p6, p7⟩ := R.fnd.put gap full
  generalize ht1 : (t.put (L2.way t.mask (thash P w k) K)).1 = t1 at p1 p3 p4 p5 p6 p7
  rw [p1]
  dsimp only
  have pl1 : t1.plain = true := p6.trans R.plain
  refine wp_if_pos pl1 (wpAny_bind (hashBy_tup hx ?_))
  simp only [if_true]
  have pm := put_perm L p (x, k)
  have row1 : (SetTable.insertAt es p (thash P w k, Value.ref x)).toList = rowsOf P w (L.take p ++ (x, k) :: L.drop p) := by rw [SetTable.toList_insertAt, rows_put, R.row]
  have fnd1 : Fnd t1 ((L.take p ++ (x, k) :: L.drop p).map fun p => thash P w p.2) := by
    rw [List.map_append, List.map_cons, List.map_take, List.map_drop]
    exact p3
  have once1 : ((L.take p ++ (x, k) :: L.drop p).map (·.2)).Nodup := (pm.map (·.2)).nodup_iff.mpr (List.nodup_cons.mpr ⟨hm, R.once⟩)
  have len1 := pm.length_eq
  rw [List.length_cons] at len1
  rw [List.length_map] at p7
  generalize hes : SetTable.insertAt es p (thash P w k, Value.ref x) = es1 at row1
  have size1 : es1.size = L.length + 1 := by
    rw [← Array.length_toList, row1, ← len1]
    unfold rowsOf
    rw [List.length_map]
  generalize L.take p ++ (x, k) :: L.drop p = L1 at pm row1 fnd1 once1 len1
  refine wpAny_bind (wpAny_storeSet_of ho hd ?_ (by rw [size1, sizeLine_eq]; omega))
  have sb : Heap.SameBut a s.heap (s.heap.update a (Obj.putSet es1 t1)) := Heap.SameBut.update ..
  have at1 := store_at (es' := es1) (t' := t1) ho hd
  generalize s.heap.update a (Obj.putSet es1 t1) = h1 at sb at1 ⊢
  have each1 : ∀ q ∈ L1, IsT P w h1 q.2 q.1 := fun q hq => by
    rcases List.mem_cons.mp (pm.mem_iff.mp hq) with rfl | hq
    · exact isT_same hx ho hd sb
    · exact isT_same (R.each q hq) ho hd sb
  have laid : Laid P w h1 a L1 es1 (ep + 1) t1 := ⟨⟨_, at1, hex, rfl⟩, row1, fnd1, once1, each1, pl1⟩
  have full1 : t1.tooFull = decide ((L.length + 1) * 5 ≥ t1.mask * 3) := by
    unfold SetTable.tooFull
    rw [p7]
  by_cases hf : (L.length + 1) * 5 ≥ t.mask * 3
  · refine wp_if_pos (show (!false && t1.tooFull) = true by rw [full1, p4, decide_eq_true hf]; rfl) (wpAny_bind ?_)
    rw [hz]
    have last : ∀ {m : Nat}, SetTable.sizeAbove (SetTable.grown (L.length + 1)) = m + 1 → Mk m → (L.length + 1) * 5 < m * 3 → wpAny (model P w) A (setRelay a (SetTable.grown (L.length + 1))) (fun _ s' => wpAny (model P w) A (pure true) Q E s') E { s with heap := h1 } := fun {m} h1' W h2' =>
      grow (s := { s with heap := h1 }) laid (by rw [len1, p4]; omega) h1' W (by rw [len1]; exact h2') fun h2 L2 es2 ep2 t2 sb2 R2 pm2 => wpAny_pure (h true h2 L2 es2 ep2 t2 (sb.trans sb2) R2 (fun z => absurd z hm) fun _ => pm2.trans pm)
    have sz := next_size (L.length + 1)
    have hc : L.length + 1 = 5 ∨ L.length + 1 = 19 ∨ L.length + 1 = 77 := by rcases R.fnd.msk.four with e | e | e | e <;> omega
    rcases hc with c | c | c
    · exact last (m := 31) (sz.1 c) mk31 (by omega)
    · exact last (m := 127) (sz.2.1 c) mk127 (by omega)
    · exact last (m := 511) (sz.2.2 c) mk511 (by omega)
  · refine wp_if_neg (show ¬ (!false && t1.tooFull) = true by rw [full1, p4, decide_eq_false hf]; decide) ?_
    exact wpAny_pure (h true h1 L1 es1 (ep + 1) t1 sb ⟨laid.obj, row1, fnd1, once1, each1, pl1, by rw [len1, p4]; omega⟩ (fun z => absurd z hm) fun _ => pm)
end
end VW
set_option maxRecDepth 100000
namespace VW
open PySem L2 PySem.Spec PyProof.Rows
section
variable {P : Program} {w : World} {A : Around} {E : Value → Shared → Prop} {s : Shared} {a : Addr} {L : List (Addr × List Int)} {es : Array (Int × Value)} {ep : Nat} {t : SetTable}
theorem Tups.moved {h h' : Heap} (R : Tups P w h a L es ep t) (ha : ∀ o, h.get? a = some o → h'.get? a = some o) (ht : ∀ p ∈ L, IsT P w h' p.2 p.1) : Tups P w h' a L es ep t := by
  obtain ⟨o, ho, r⟩ := R.obj
  exact ⟨⟨o, ha o ho, r⟩, R.row, R.fnd, R.once, ht, R.plain, R.room⟩
/-- the set has the first i, each key once -/
structure Has (ks : List (Addr × List Int)) (i : Nat) (L : List (Addr × List Int)) : Prop where
  key : ∀ x, x ∈ L.map (·.2) ↔ x ∈ (ks.take i).map (·.2)
  sub : ∀ p ∈ L, p ∈ ks
  len : L.length ≤ i
theorem take_one {α : Type} {l : List α} {i : Nat} {x : α} (h : l[i]? = some x) : l.take (i + 1) = l.take i ++ [x] := by
  rw [List.take_add_one, h]
  rfl
theorem Has.next {ks L' : List (Addr × List Int)} {i : Nat} {x : Addr × List Int} (g : Has ks i L) (h : ks[i]? = some x) (c1 : x.2 ∈ L.map (·.2) → L' = L) (c2 : x.2 ∉ L.map (·.2) → L'.Perm (x :: L)) : Has ks (i + 1) L' := by
  have kk : ∀ y, y ∈ (ks.take (i + 1)).map (·.2) ↔ y ∈ (ks.take i).map (·.2) ∨ y = x.2 := fun y => by
    rw [take_one h, List.map_append, List.mem_append]
    exact or_congr Iff.rfl (by rw [List.map_cons, List.map_nil, List.mem_singleton])
  by_cases c : x.2 ∈ L.map (·.2)
  · rw [c1 c]
    refine ⟨fun y => ?_, g.sub, Nat.le_succ_of_le g.len⟩
    rw [kk, ← g.key]
    exact ⟨.inl, fun z => z.elim id fun e => e ▸ c⟩
  · have pm := c2 c
    refine ⟨fun y => ?_, fun p hp => ?_, by rw [pm.length_eq]; exact Nat.succ_le_succ g.len⟩
    · rw [kk, ← g.key, (pm.map (·.2)).mem_iff, List.map_cons, List.mem_cons]
      exact Or.comm
    · rcases List.mem_cons.mp (pm.mem_iff.mp hp) with rfl | hp
      · exact List.mem_of_getElem? h
      · exact g.sub p hp
/-- the loop that puts in what is walked -/
theorem fill {I : Addr} {fp wr : List Addr} {G : Array GenState → Array GenState → Prop} {n : Nat} {Pv : Nat → Value → Prop} {St : Nat → Shared → Prop} {R : Result → Shared → Prop}
    (W : WalksS P w A.in1 I fp wr G n Pv St) (hu : A.in1.units < cLine) (S : Addr) (hSf : S ∉ fp) (ks : List (Addr × List Int)) (few : ks.length < 200) (hn : n = ks.length) (hval : ∀ i v, Pv i v → ∃ p, ks[i]? = some p ∧ v = .ref p.1)
    (h0 : Heap) (hk : ∀ p ∈ ks, IsT P w h0 p.2 p.1) (hS0 : h0.get? S = none) (hw0 : ∀ b ∈ wr, h0.get? b = none) (k : Nat) :
    ∀ (i : Nat) (s : Shared), i + k = n → St i s → (∀ b o, h0.get? b = some o → s.heap.get? b = some o) → (∃ L es ep t, Tups P w s.heap S L es ep t ∧ Has ks i L) →
      (∀ s' L es ep t, Moved (S :: wr) G s s' → Tups P w s'.heap S L es ep t → Has ks n L → (∀ b o, h0.get? b = some o → s'.heap.get? b = some o) → R (.ok (.ret .none)) s') →
      codeAny (model P w) A (.builtin "set.update.loop" ⟨[.ref S, .ref I], []⟩) R s := by
  have hSw : S ∉ wr := fun h => hSf (W.sub _ h)
  have wide : ∀ b ∈ wr, b ∈ S :: wr := fun b hb => List.mem_cons_of_mem _ hb
  have on : ∀ {s s' : Shared}, Moved wr G s s' → (∀ b o, h0.get? b = some o → s.heap.get? b = some o) → ∀ b o, h0.get? b = some o → s'.heap.get? b = some o := fun hm hkp b o e => by
    refine hm.heap b o (fun hb => ?_) (hkp b o e)
    rw [hw0 b hb] at e
    cases e
  induction k with
  | zero =>
    intro i s hi hst hkp ⟨L, es, ep, t, hS, g⟩ hR
    rw [Nat.add_zero] at hi
    subst hi
    refine codeAny_builtin F.entry_set_update_loop ?_
    rw [Around.under_plainId F.plain_set_update_loop _]
    refine wpAny_bind (W.done s _ _ hst fun s' hm => ?_)
    have hkp' := on hm hkp
    exact wpAny_pure (hR s' L es ep t (hm.mono wide) (hS.moved (fun o e => hm.heap S o hSw e) fun p hp => isT_keep (hk p (g.sub p hp)) hkp') g hkp')
  | succ k ih =>
    intro i s hi hst hkp ⟨L, es, ep, t, hS, g⟩ hR
    refine codeAny_builtin F.entry_set_update_loop ?_
    rw [Around.under_plainId F.plain_set_update_loop _]
    refine wpAny_bind (W.item i s _ _ (by omega) hst fun v s' hP hst' hm => ?_)
    obtain ⟨p, hp, rfl⟩ := hval i v hP
    have hkp' := on hm hkp
    have hx : IsT P w s'.heap p.2 p.1 := isT_keep (hk p (List.mem_of_getElem? hp)) hkp'
    have hS' : Tups P w s'.heap S L es ep t := hS.moved (fun o e => hm.heap S o hSw e) fun q hq => isT_keep (hk q (g.sub q hq)) hkp'
    refine wpAny_bind (wpAny_holding ?_)
    unfold setAdd
    refine wpAny_holding (wpAny_bind (wpAny_pyHash_tuple hu hx ?_))
    refine join (s := { s' with toks := s'.toks + (p.2.length + 1) }) hS' hx hu (by have := g.len; omega) fun b h' L' es' ep' t' same hS2 c1 c2 => ?_
    have hkp2 : ∀ b o, h0.get? b = some o → h'.get? b = some o := fun b o e => (same.2 b fun z => by rw [z, hS0] at e; cases e).trans (hkp' b o e)
    refine wpAny_pure ⟨plainId_quiet F.plain_set_update_loop _, ih (i + 1) _ (by omega) (W.frame _ s' _ _ hst' (Nat.le_add_right _ _) fun b hb o e => (same.2 b fun h : b = S => hSf (h ▸ hb)).trans e) hkp2 ⟨L', es', ep', t', hS2, g.next hp c1 c2⟩ fun s'' L2 es2 ep2 t2 hm2 hS'' g'' hkp'' => ?_⟩
    exact hR s'' L2 es2 ep2 t2 (Moved.trans W.gtrans ((hm.mono wide).then_heap (Nat.le_add_right _ _) fun b o hb e => (same.2 b fun h : b = S => hb (h ▸ List.mem_cons_self)).trans e) hm2) hS'' g'' hkp''
end
end VW
set_option maxRecDepth 100000
namespace VL
open PySem L2 PySem.Spec PyProof.Rows
end VL
set_option maxRecDepth 100000
namespace VL
open PySem L2 PySem.Spec PyProof.Rows
theorem SmB.none {X : Cx} {pins : List (Addr × Obj)} {σ : L2.St} {H : Hp} {s : Shared} (h : SmB X.base) (I : Inv X pins σ H s) : H sysModules = none := let ⟨o, e⟩ := h; (I.bs _ _ e).2
end VL
set_option maxRecDepth 100000
set_option maxHeartbeats 2000000
namespace VL
open PySem L2 PySem.Spec PyProof.Rows
end VL
set_option maxRecDepth 100000
namespace VL
open PySem L2
section
variable {C : Cc} {π : List (Nat × V)} {e : Env} {σ : L2.St} {w : WS}
theorem Mt.sfree {i : Nat} {x : Option V} (m : Mt C π e σ w) (he : at? e i = none) (hp : ∀ p ∈ π, p.1 ≠ i) : Mt C π e (σ.set i x) w := by
  refine ⟨by rw [List.length_set]; exact m.len, m.sub, m.tg, fun k b q => ?_, m.non, m.dis, fun p h => ?_⟩
  · have hk : i ≠ k := fun z => by subst z; rw [he] at q; cases q
    rw [List.getElem?_set_ne hk]
    exact m.bok k b q
  · rw [List.getElem?_set_ne (Ne.symm (hp p h))]
    exact m.pin p h
end
end VL
set_option maxRecDepth 100000
namespace VL
open PySem L2
def isSub (c d : Str) : Bool := decide (c = d) || decide (d = "OrderError") || decide (d = "ValueError")
/-- what is asked of a class of errors, computed -/
def kExc (K : PySem.W.Frag) (D : Addr) : Bool :=
  He.eqO (PySem.W.findIn K (.ref D) "__getattribute__") (some (some (.builtin "BaseException.__getattribute__"))) && He.eqO (PySem.W.findIn K (.ref D) "__getattr__") (some none) && decide (PySem.W.subIn K (.ref D) (.type "BaseException") = some true) &&
  PySem.W.hasDictIn K D && He.eqO (PySem.W.findIn K (.ref D) "__class__") (some (some (.builtin "object.__class__"))) && He.eqO (PySem.W.specialIn K (.builtin "object.__class__") "__get__") (some (some (.builtin "getset_descriptor.__get__"))) &&
  decide (PySem.W.takesIn K (.builtin "object.__class__") = some true) && decide (PySem.W.mroIn K D (.type "object") = some true)
theorem kExc_ok {K : PySem.W.Frag} {D : Addr} (h : kExc K D = true) : ExcC K D := by
  unfold kExc at h
  simp only [Bool.and_eq_true, decide_eq_true_eq] at h
  obtain ⟨⟨⟨⟨⟨⟨⟨h1, h2⟩, h3⟩, h4⟩, h5⟩, h6⟩, h7⟩, h8⟩ := h
  exact ⟨He.eqO_ok h1, He.eqO_ok h2, h3, h4, He.eqO_ok h5, He.eqO_ok h6, h7, h8⟩
def exB (cs ds : List Str) (K : PySem.W.Frag) : Bool :=
  cs.all (fun c => kExc K (He.ga K c) && ds.all (fun d => decide (PySem.W.kitOne K (.ref (He.ga K c)) (.ref (He.ga K d)) = some (isSub c d))) && decide (PySem.W.kitOne K (.ref (He.ga K c)) (.type "ValueError") = some true) && decide (PySem.W.exmOne K (.ref (He.ga K c)) (.ref (He.ga K "OrderError")) = some true)) &&
  ds.all (fun d => decide (PySem.W.kitOne K (.type "NoneType") (.ref (He.ga K d)) = some false)) && decide (PySem.W.kitOne K (.type "NoneType") (.type "ValueError") = some false)
def gAll (K : PySem.W.Frag) (mg : Str → Option Value) : List Str → Prop
  | [] => True
  | c :: r => mg c = some (.ref (He.ga K c)) ∧ gAll K mg r
theorem gAll.get {K : PySem.W.Frag} {mg : Str → Option Value} : ∀ {l : List Str} {c : Str}, gAll K mg l → c ∈ l → mg c = some (.ref (He.ga K c))
  | _ :: _, _, h, .head _ => h.1
  | _ :: r, _, h, .tail _ q => gAll.get (l := r) h.2 q
structure ExF (K : PySem.W.Frag) (mg : Str → Option Value) (cs ds : List Str) : Prop where
  ok : exB cs ds K = true
  g1 : gAll K mg cs
  g2 : gAll K mg ds
  oe : mg "OrderError" = some (.ref (He.ga K "OrderError"))
  ve : mg "ValueError" = none
section
variable {K : PySem.W.Frag} {mg : Str → Option Value} {cs ds : List Str}
theorem ExF.exc (f : ExF K mg cs ds) {c : Str} (hc : c ∈ cs) : ExcC K (He.ga K c) := by
  have h := f.ok
  unfold exB at h
  simp only [Bool.and_eq_true, List.all_eq_true, decide_eq_true_eq] at h
  exact kExc_ok (h.1.1 c hc).1.1.1
end
end VL
set_option maxRecDepth 100000
namespace VL
open PySem L2 PySem.Spec PyProof.Rows
end VL
set_option maxRecDepth 100000
namespace VL
open PySem L2 PySem.Spec PyProof.Rows
end VL
set_option maxRecDepth 100000
namespace VL
open PySem L2
section
variable {X : Cx} {ρ : Nat → Res} {W : WX} {a : Expr} {es : List Expr} {pos p : Pos} {fa : FE} {as_ : FA} {C : Cc} {π : List (Nat × V)} {e e1 e2 : Env} {σ : St} {w w0 w1 w2 : WS}
/-- a slot more -/
def WS.push (w : WS) (n : Nat) (fp : Addr → Prop) : WS := { w with fp := fun i a => if i = n then fp a else w.fp i a }
theorem at_push {x : Option B} {i : Nat} : at? (e ++ [x]) i = if i = e.length then x else at? e i := by
  unfold at?
  by_cases h : i = e.length
  · subst h
    rw [if_pos rfl, List.getElem?_append_right (Nat.le_refl _)]
    simp
  · rw [if_neg h]
    by_cases h2 : i < e.length
    · rw [List.getElem?_append_left h2]
    · rw [List.getElem?_eq_none (by rw [List.length_append, List.length_singleton]; omega), List.getElem?_eq_none (by omega)]
theorem Mt.push {x : B} {v : V} {fp : Addr → Prop} (m : Mt C π e σ w) (hb : BOk C w.G w.H x v fp) (hd : ∀ a, fp a → ∀ i, ¬ w.fp i a) : Mt C π (e ++ [some x]) (σ ++ [some v]) (w.push e.length fp) := by
  have out : ∀ i, ¬ i < e.length → ∀ a, ¬ w.fp i a := fun i hi a z => m.non i (by unfold at?; rw [List.getElem?_eq_none (by omega)]) a z
  refine ⟨by simp [m.len], m.sub, m.tg, fun i b q => ?_, fun i q a z => ?_, fun i j a h1 h2 => ?_, fun q hq => ?_⟩
  · rw [at_push] at q
    by_cases h : i = e.length
    · rw [if_pos h] at q
      cases q
      refine ⟨v, by rw [h, m.len, List.getElem?_append_right (Nat.le_refl _)]; simp, ?_⟩
      have e1 : (w.push e.length fp).fp i = fp := by funext a; show (if i = e.length then fp a else w.fp i a) = fp a; rw [if_pos h]
      rw [e1]
      exact hb
    · rw [if_neg h] at q
      obtain ⟨u, h1, h2⟩ := m.bok i b q
      have hl := (List.getElem?_eq_some_iff.mp h1).1
      refine ⟨u, by rw [List.getElem?_append_left hl]; exact h1, ?_⟩
      have e1 : (w.push e.length fp).fp i = w.fp i := by funext a; show (if i = e.length then fp a else w.fp i a) = w.fp i a; rw [if_neg h]
      rw [e1]
      exact h2
  · rw [at_push] at q
    have z' : (if i = e.length then fp a else w.fp i a) := z
    by_cases h : i = e.length
    · rw [if_pos h] at q; cases q
    · rw [if_neg h] at q z'
      exact m.non i q a z'
  · have h1' : (if i = e.length then fp a else w.fp i a) := h1
    have h2' : (if j = e.length then fp a else w.fp j a) := h2
    by_cases hi : i = e.length
    · rw [if_pos hi] at h1'
      by_cases hj : j = e.length
      · rw [hi, hj]
      · rw [if_neg hj] at h2'
        exact absurd h2' (hd a h1' j)
    · rw [if_neg hi] at h1'
      by_cases hj : j = e.length
      · rw [if_pos hj] at h2'
        exact absurd h1' (hd a h2' i)
      · rw [if_neg hj] at h2'
        exact m.dis i j a h1' h2'
  · have := m.pin q hq
    rw [List.getElem?_append_left (List.getElem?_eq_some_iff.mp this).1]
    exact this
theorem Frm.push {fp : Addr → Prop} {n : Nat} (f : Frm w0 w) (hf : ∀ a, fp a → w0.H a = none ∨ ∃ i, w0.fp i a) : Frm w0 (w.push n fp) := by
  refine ⟨f.g, fun a o h k => ?_, f.t⟩
  obtain ⟨h1, h2, h3⟩ := f.k a o h k
  refine ⟨h1, h2, fun i z => ?_⟩
  have z' : (if i = n then fp a else w.fp i a) := z
  by_cases hi : i = n
  · rw [if_pos hi] at z'
    rcases hf a z' with q | ⟨j, q⟩
    · rw [q] at h; cases h
    · exact k j q
  · rw [if_neg hi] at z'
    exact h3 i z'
/-- the last slot let go -/
def WS.pop (w : WS) (n : Nat) : WS := { w with fp := fun i a => i ≠ n ∧ w.fp i a }
theorem Mt.pop {x : Option B} {v : Option V} (m : Mt C π (e ++ [x]) (σ ++ [v]) w) (hp : ∀ q ∈ π, q.1 < σ.length) : Mt C π e σ (w.pop e.length) := by
  have hl : e.length = σ.length := by simpa using m.len
  refine ⟨hl, m.sub, m.tg, fun i b q => ?_, fun i q a z => ?_, fun i j a h1 h2 => m.dis i j a h1.2 h2.2, fun q hq => ?_⟩
  · have hi : i ≠ e.length := fun z => by rw [z] at q; unfold at? at q; rw [List.getElem?_eq_none (Nat.le_refl _)] at q; cases q
    obtain ⟨u, h1, h2⟩ := m.bok i b (by rw [at_push, if_neg hi]; exact q)
    have hlt : i < σ.length := by rw [← hl]; exact at_lt q
    rw [List.getElem?_append_left hlt] at h1
    refine ⟨u, h1, ?_⟩
    have e1 : (w.pop e.length).fp i = w.fp i := by funext a; exact propext ⟨fun z => z.2, fun z => ⟨hi, z⟩⟩
    rw [e1]
    exact h2
  · refine m.non i ?_ a z.2
    rw [at_push, if_neg z.1]
    exact q
  · have := m.pin q hq
    rwa [List.getElem?_append_left (hp q hq)] at this
theorem Frm.pop {n : Nat} (f : Frm w0 w) : Frm w0 (w.pop n) := ⟨f.g, fun a o h k => (f.k a o h k).imp id fun z => z.imp id fun z i q => z i q.2, f.t⟩
end
end VL
set_option maxRecDepth 100000
namespace VL
open PySem L2
/-- a thing of its own, as a tree -/
def trOf : B → Option Tr
  | .fr d => some (.fr d)
  | .ow ds => some (.nd .lst (ds.map .fr))
  | .tr t => some t
  | _ => none
/-- the thing moved: a name that owned it owns it no longer -/
def ownT (e : Env) : O → Option (Tr × Env)
  | .b b => (trOf b).map fun t => (t, e)
  | .s i => match at? e i with
    | some (.fr d) => some (.fr d, e)
    | some b => (trOf b).map fun t => (t, e.set i none)
    | none => none
section
variable {C : Cc} {π : List (Nat × V)} {e e' : Env} {σ : St} {w w0 : WS} {o : O} {v : V} {t : Tr}
theorem tall_fr {G H : Hp} : ∀ {xs : List V} {ds : List PyData}, RpAll C.K G xs ds → TAll C G H (ds.map .fr) xs []
  | _, _, .nil => .nil
  | _, _, .cons r t => .cons (as := []) (.fr r) (tall_fr t)
theorem bok_tr {G H : Hp} {b : B} {fp : Addr → Prop} (h : BOk C G H b v fp) (ht : trOf b = some t) : BOk C G H (.tr t) v fp := by
  cases b with
  | fr d =>
    cases ht
    exact ⟨[], .fr h.1, List.nodup_nil, fun a => ⟨fun z => absurd z (h.2 a), fun z => nomatch z⟩⟩
  | ow ds =>
    cases ht
    obtain ⟨p, xs, rfl, h1, h2, h3, h4⟩ := h
    exact ⟨[p], .lst h1 h2 (tall_fr h3), by simp, fun a => (h4 a).trans (by simp)⟩
  | tr t' => cases ht; exact h
  | od ds => cases ht
  | ex c => cases ht
  | rs k d => cases ht
  | sc ns => cases ht
theorem ownT_sound (m : Mt C π e σ w) (f : Frm w0 w) (h : OOk C σ w0 w o v) (hz : ownT e o = some (t, e')) : ∃ w', Mt C π e' σ w' ∧ Frm w0 w' ∧ w'.H = w.H ∧ w'.G = w.G ∧ OOk C σ w0 w' (.b (.tr t)) v := by
  cases o with
  | b b =>
    have hz : ((trOf b).map fun t => (t, e)) = some (t, e') := hz
    cases q : trOf b with
    | none => rw [q] at hz; cases hz
    | some t' =>
      rw [q] at hz
      cases hz
      obtain ⟨fp, h1, h2⟩ := h
      exact ⟨w, m, f, rfl, rfl, fp, bok_tr h1 q, h2⟩
  | s i =>
    have hv : σ[i]? = some (some v) := h
    unfold ownT at hz
    dsimp only at hz
    cases q : at? e i with
    | none => rw [q] at hz; cases hz
    | some b =>
      obtain ⟨u, h1, h2⟩ := m.bok i b q
      rw [hv] at h1
      cases h1
      have mv : ∀ t', trOf b = some t' → e' = e.set i none → t = t' → ∃ w', Mt C π e' σ w' ∧ Frm w0 w' ∧ w'.H = w.H ∧ w'.G = w.G ∧ OOk C σ w0 w' (.b (.tr t)) v := by
        rintro t' q2 rfl rfl
        obtain ⟨w', m', f', eH, eG, hl⟩ := m.drop (i := i)
        refine ⟨w', m', f.trans f', eH, eG, w.fp i, by rw [eH, eG]; exact bok_tr h2 q2, fun a ha => ⟨f.back (.inr ⟨i, ha⟩), fun j z => ?_⟩⟩
        by_cases hj : i = j
        · subst hj
          exact m'.non i (at_set_same q) a z
        · exact hj (m.dis i j a ha (hl j a z))
      cases b with
      | fr d =>
        rw [q] at hz
        cases hz
        exact ⟨w, m, f, rfl, rfl, fun _ => False, bok_tr (b := .fr d) ⟨h2.1, fun _ z => z⟩ rfl, fun _ z => z.elim⟩
      | ow ds => rw [q] at hz; cases hz; exact mv _ rfl rfl rfl
      | tr t' => rw [q] at hz; cases hz; exact mv _ rfl rfl rfl
      | od ds => rw [q] at hz; cases hz
      | ex c => rw [q] at hz; cases hz
      | rs k d => rw [q] at hz; cases hz
      | sc ns => rw [q] at hz; cases hz
/-- the tree of a name changed -/
theorem Mt.trmut {i : Nat} {b : B} {H' : Hp} {as : List Addr} {t' : Tr} (m : Mt C π e σ w) (f : Frm w0 w) (h : at? e i = some b) (hv : σ[i]? = some (some v)) (hr : TOk C w.G H' t' v as) (nd : as.Nodup)
    (hc : ∀ a, H' a = w.H a ∨ w.fp i a ∨ w.H a = none) (ha : ∀ a ∈ as, w.fp i a ∨ ((w0.H a = none ∨ ∃ j, w0.fp j a) ∧ ∀ j, ¬ w.fp j a)) (hn : ∀ a, H' a = none → w.H a = none) (hk : ∀ a o, w0.H a = some o → (∀ j, ¬ w0.fp j a) → H' a = w.H a) (hT : ∀ a (k : List Int), H' a = some (.tup (k.map V.int)) → H' a = w.H a := by exact updT (fun _ h => by cases h)) :
    Mt C π (e.set i (some (.tr t'))) σ { w with H := H', fp := fun j a => if j = i then a ∈ as else w.fp j a } ∧ Frm w0 { w with H := H', fp := fun j a => if j = i then a ∈ as else w.fp j a } := by
  have fpi : (fun a => (if i = i then a ∈ as else w.fp i a)) = fun a => a ∈ as := by funext a; rw [if_pos rfl]
  have fpn : ∀ j, i ≠ j → (fun a => (if j = i then a ∈ as else w.fp j a)) = w.fp j := fun j hj => by funext a; rw [if_neg (Ne.symm hj)]
  refine ⟨⟨by rw [List.length_set]; exact m.len, fun a o q => ?_, fun a k q => m.tg a k ((hT a k q).symm.trans q), fun j c q => ?_, fun j q a z => ?_, fun j k a x y => ?_, m.pin⟩, ⟨f.g, fun a o q n => ?_, fun a q => f.t a (hn a q)⟩⟩
  · have q' : w.H a = some o := m.sub a o q
    rcases hc a with z | z | z
    · exact z.trans q'
    · rw [(m.own z).1] at q; cases q
    · rw [z] at q'; cases q'
  · by_cases hj : i = j
    · subst hj
      rw [at_set_same h] at q
      cases q
      refine ⟨v, hv, ?_⟩
      show BOk C w.G H' (.tr t') v (fun a => (if i = i then a ∈ as else w.fp i a))
      rw [fpi]
      exact ⟨as, hr, nd, fun _ => Iff.rfl⟩
    · rw [at_set_ne hj] at q
      obtain ⟨u, k1, k2⟩ := m.bok j c q
      refine ⟨u, k1, ?_⟩
      show BOk C w.G H' c u (fun a => (if j = i then a ∈ as else w.fp j a))
      rw [fpn j hj]
      refine k2.mono (Same.refl _) fun a ha' => ⟨?_, rfl⟩
      rcases hc a with z | z | z
      · exact z
      · exact absurd (m.dis i j a z ha') hj
      · obtain ⟨_, o, ho⟩ := k2.own a ha'
        rw [ho] at z; cases z
  · by_cases hj : i = j
    · subst hj
      rw [at_set_same h] at q
      cases q
    · rw [at_set_ne hj] at q
      have z' : (if j = i then a ∈ as else w.fp j a) := z
      rw [if_neg (Ne.symm hj)] at z'
      exact m.non j q a z'
  · have x' : (if j = i then a ∈ as else w.fp j a) := x
    have y' : (if k = i then a ∈ as else w.fp k a) := y
    by_cases hj : j = i
    · rw [if_pos hj] at x'
      by_cases hk' : k = i
      · rw [hj, hk']
      · rw [if_neg hk'] at y'
        rcases ha a x' with z | z
        · exact hj.trans (m.dis i k a z y')
        · exact absurd y' (z.2 k)
    · rw [if_neg hj] at x'
      by_cases hk' : k = i
      · rw [if_pos hk'] at y'
        rcases ha a y' with z | z
        · exact (m.dis j i a x' z).trans hk'.symm
        · exact absurd x' (z.2 j)
      · rw [if_neg hk'] at y'
        exact m.dis j k a x' y'
  · obtain ⟨k1, k2, k3⟩ := f.k a o q n
    refine ⟨(hk a o q n).trans k1, k2, fun j z => ?_⟩
    have z' : (if j = i then a ∈ as else w.fp j a) := z
    by_cases hj : j = i
    · rw [if_pos hj] at z'
      rcases ha a z' with r | r
      · exact k3 i r
      · rcases r.1 with r | ⟨j', r⟩
        · rw [r] at q; cases q
        · exact n j' r
    · rw [if_neg hj] at z'
      exact k3 j z'
theorem TAll.append {G H : Hp} : ∀ {ts us : List Tr} {xs ys : List V} {as bs : List Addr}, TAll C G H ts xs as → TAll C G H us ys bs → TAll C G H (ts ++ us) (xs ++ ys) (as ++ bs)
  | _, _, _, _, _, _, .nil, k => k
  | _, _, _, _, _, bs, .cons (as := a1) (bs := b1) h t, k => by
    rw [List.append_assoc]
    exact .cons h (TAll.append t k)
theorem TAll.length {G H : Hp} : ∀ {ts : List Tr} {xs : List V} {as : List Addr}, TAll C G H ts xs as → xs.length = ts.length
  | _, _, _, .nil => rfl
  | _, _, _, .cons _ t => by rw [List.length_cons, List.length_cons, TAll.length t]
theorem TAll.one {G H : Hp} {as : List Addr} (h : TOk C G H t v as) : TAll C G H [t] [v] as := by
  have := TAll.cons h (.nil (C := C) (G := G) (H := H))
  rwa [List.append_nil] at this
end
def sOwnT (i : Nat) (f : FE) : FS := fun e => bndS (f e) fun o e1 => (ownT e1 o).bind fun p => some (.nx (p.2.set i (some (.tr p.1))))
section
variable {X : Cx} {ρ : Nat → Res} {W : WX} {pn : List Nat} {a : Expr} {fa : FE} {pos : Pos}
theorem ss_ownT {C : Cc} {t : TE} {i : Nat} (hi : i ∉ pn) (s : SE C W t fa) : SS C W pn (tAsg t (gName i)) (sOwnT i fa) := fun π e σ w D hp m h => by
  refine s π e σ w _ m (h.bnd fun o1 e1 v1 w1 m1 f1 k1 h1 => ?_)
  cases q : ownT e1 o1 with
  | none => rw [q] at h1; exact h1.elim
  | some pr =>
    rw [q] at h1
    obtain ⟨w2, m2, f2, eH, eG, fp, b1, b2⟩ := ownT_sound (e' := pr.2) m1 f1 k1 q
    obtain ⟨w3, m3, f3, eH3, _⟩ := m2.bind f2 (fun p h (z : p.1 = i) => hi (z ▸ hp p h)) b1 b2
    rw [← eH, ← eH3]
    exact h1 _ w3 m3 f3
end
end VL
set_option maxRecDepth 100000
namespace VL
open PySem L2
/-- what all are frozen -/
def frsT : List Tr → Option (List PyData)
  | [] => some []
  | .fr d :: r => (frsT r).map (d :: ·)
  | .nd _ _ :: _ => none
/-- a tree in a slot; fl: a list of what is frozen -/
def rowB (fl : Bool) : Tr → Option B
  | .fr d => if fl = true then none else some (.fr d)
  | .nd k ts => if fl = true then (match k with
    | .lst => (frsT ts).map .ow
    | _ => none) else some (.tr (.nd k ts))
section
variable {C : Cc} {π : List (Nat × V)} {e e' : Env} {σ : St} {w w0 w1 : WS}
theorem frs_all {G H : Hp} : ∀ {ts : List Tr} {ds : List PyData} {xs : List V} {as : List Addr}, frsT ts = some ds → TAll C G H ts xs as → RpAll C.K G xs ds ∧ as = []
  | [], _, _, _, h, .nil => by
    cases h
    exact ⟨.nil, rfl⟩
  | .fr d :: r, ds, _, _, h, .cons h1 h2 => by
    have h' : (frsT r).map (d :: ·) = some ds := h
    cases q : frsT r with
    | none => rw [q] at h'; cases h'
    | some es =>
      rw [q] at h'
      cases h'
      obtain ⟨g1, g2⟩ := frs_all q h2
      cases h1 with
      | fr rr => exact ⟨.cons rr g1, by rw [g2]; rfl⟩
  | .nd _ _ :: _, _, _, _, h, _ => by cases h
theorem bok_rowB {fl : Bool} {b : B} {G H : Hp} {t : Tr} {v : V} {as : List Addr} (hb : rowB fl t = some b) (h : TOk C G H t v as) (nd : as.Nodup) : BOk C G H b v fun a => a ∈ as := by
  unfold rowB at hb
  split at hb
  · split at hb
    · cases hb
    · cases hb
      cases h with
      | fr r => exact ⟨r, fun a z => nomatch z⟩
  · rename_i k ts
    split at hb
    · split at hb
      · cases q : frsT ts with
        | none => rw [q] at hb; cases hb
        | some ds =>
          rw [q] at hb
          cases hb
          cases h with
          | lst n1 n2 n3 =>
            rename_i p xs as'
            obtain ⟨g1, g2⟩ := frs_all q n3
            subst g2
            exact ⟨p, xs, rfl, n1, n2, g1, fun a => by simp⟩
      · cases hb
    · cases hb
      exact ⟨as, h, nd, fun _ => Iff.rfl⟩
/-- things at some addresses, in no slot: hidden -/
structure Hid (w : WS) (as : List Addr) : Prop where
  nd : as.Nodup
  g : ∀ a ∈ as, w.G a = none
  h : ∀ a ∈ as, ∃ o, w.H a = some o
  n : ∀ a ∈ as, ∀ i, ¬ w.fp i a
theorem Hid.step {as : List Addr} (k : Hid w as) (f : Frm w w1) : Hid w1 as ∧ ∀ a ∈ as, w1.H a = w.H a ∧ w1.G a = w.G a := by
  have key : ∀ a ∈ as, w1.H a = w.H a ∧ w1.G a = w.G a ∧ ∀ i, ¬ w1.fp i a := fun a ha => by
    obtain ⟨o, ho⟩ := k.h a ha
    obtain ⟨g1, g2, g3⟩ := f.k a o ho (k.n a ha)
    exact ⟨g1.trans ho.symm, g2, g3⟩
  exact ⟨⟨k.nd, fun a ha => (key a ha).2.1.trans (k.g a ha), fun a ha => by rw [(key a ha).1]; exact k.h a ha, fun a ha => (key a ha).2.2⟩, fun a ha => ⟨(key a ha).1, (key a ha).2.1⟩⟩
theorem Hid.sub {as bs : List Addr} (k : Hid w as) (h : bs.Sublist as) : Hid w bs := ⟨k.nd.sublist h, fun a ha => k.g a (h.subset ha), fun a ha => k.h a (h.subset ha), fun a ha => k.n a (h.subset ha)⟩
/-- a slot taken out: what it owned is hidden -/
theorem Mt.take {i : Nat} {b : B} {t : Tr} (m : Mt C π e σ w) (h : at? e i = some b) (ht : trOf b = some t) : ∃ v w' as, σ[i]? = some (some v) ∧ Mt C π (e.set i none) σ w' ∧ Frm w w' ∧ w'.H = w.H ∧ w'.G = w.G ∧ TOk C w'.G w'.H t v as ∧ Hid w' as ∧ (∀ a, a ∈ as ↔ w.fp i a) ∧ ∀ l a, w'.fp l a → w.fp l a := by
  obtain ⟨v, h1, h2⟩ := m.bok i b h
  obtain ⟨as, g1, g2, g3⟩ := bok_tr h2 ht
  obtain ⟨w', m', f', eH, eG, hl⟩ := m.drop (i := i)
  have hn : ∀ a ∈ as, ∀ j, ¬ w'.fp j a := fun a ha j z => by
    by_cases hj : i = j
    · subst hj
      exact m'.non i (at_set_same h) a z
    · exact hj (m.dis i j a ((g3 a).mpr ha) (hl j a z))
  refine ⟨v, w', as, h1, m', f', eH, eG, by rw [eH, eG]; exact g1, ⟨g2, fun a ha => ?_, fun a ha => ?_, hn⟩, fun a => (g3 a).symm, hl⟩
  · rw [eG]; exact (g1.own a ha).1
  · rw [eH]; exact (g1.own a ha).2
/-- a hidden thing given to a slot that is free -/
theorem Mt.give {i : Nat} {b : B} {v : V} {as : List Addr} (m : Mt C π e σ w) (f : Frm w0 w) (hv : σ[i]? = some (some v)) (hb : ∀ fp : Addr → Prop, (∀ a, fp a ↔ a ∈ as) → BOk C w.G w.H b v fp) (hd : Hid w as) (so : ∀ a ∈ as, w0.H a = none ∨ ∃ k, w0.fp k a) :
    Mt C π (e.set i (some b)) σ { w with fp := fun k a => if k = i then a ∈ as else w.fp k a } ∧ Frm w0 { w with fp := fun k a => if k = i then a ∈ as else w.fp k a } := by
  have hlt : i < e.length := by rw [m.len]; exact (List.getElem?_eq_some_iff.mp hv).1
  refine ⟨⟨by rw [List.length_set]; exact m.len, m.sub, m.tg, fun j c q => ?_, fun j q a z => ?_, fun j k a x y => ?_, m.pin⟩, ⟨f.g, fun a o q n => ?_, f.t⟩⟩
  · by_cases hj : i = j
    · subst hj
      rw [at_set_lt hlt] at q
      cases q
      exact ⟨v, hv, hb _ fun a => by show (if i = i then a ∈ as else w.fp i a) ↔ _; rw [if_pos rfl]⟩
    · rw [at_set_ne hj] at q
      obtain ⟨u, k1, k2⟩ := m.bok j c q
      refine ⟨u, k1, ?_⟩
      have e1 : (fun a => (if j = i then a ∈ as else w.fp j a)) = w.fp j := by funext a; rw [if_neg (Ne.symm hj)]
      show BOk C w.G w.H c u (fun a => if j = i then a ∈ as else w.fp j a)
      rw [e1]
      exact k2
  · have z' : (if j = i then a ∈ as else w.fp j a) := z
    by_cases hj : i = j
    · subst hj
      rw [at_set_lt hlt] at q
      cases q
    · rw [at_set_ne hj] at q
      rw [if_neg (Ne.symm hj)] at z'
      exact m.non j q a z'
  · have x' : (if j = i then a ∈ as else w.fp j a) := x
    have y' : (if k = i then a ∈ as else w.fp k a) := y
    by_cases hj : j = i
    · rw [if_pos hj] at x'
      by_cases hk : k = i
      · rw [hj, hk]
      · rw [if_neg hk] at y'
        exact absurd y' (hd.n a x' k)
    · rw [if_neg hj] at x'
      by_cases hk : k = i
      · rw [if_pos hk] at y'
        exact absurd x' (hd.n a y' j)
      · rw [if_neg hk] at y'
        exact m.dis j k a x' y'
  · obtain ⟨h1, h2, h3⟩ := f.k a o q n
    refine ⟨h1, h2, fun k z => ?_⟩
    have z' : (if k = i then a ∈ as else w.fp k a) := z
    by_cases hk : k = i
    · rw [if_pos hk] at z'
      rcases so a z' with r | ⟨l, r⟩
      · rw [r] at q; cases q
      · exact n l r
    · rw [if_neg hk] at z'
      exact h3 k z'
theorem Mt.pin1 {i : Nat} {v : V} (m : Mt C π e σ w) (h : σ[i]? = some (some v)) : Mt C ((i, v) :: π) e σ w := ⟨m.len, m.sub, m.tg, m.bok, m.non, m.dis, fun q hq => by
  rcases List.mem_cons.mp hq with rfl | hq
  · exact h
  · exact m.pin q hq⟩
theorem Mt.unpin {q : Nat × V} (m : Mt C (q :: π) e σ w) : Mt C π e σ w := ⟨m.len, m.sub, m.tg, m.bok, m.non, m.dis, fun p hp => m.pin p (List.mem_cons_of_mem _ hp)⟩
end
section
variable {X : Cx} {ρ : Nat → Res} {W : WX} {pn : List Nat} {f : FS}
theorem TAll.at {C : Cc} {G H : Hp} {t : Tr} {r : List Tr} {x2 : List V} {a2 : List Addr} (h : TAll C G H (t :: r) x2 a2) : ∃ x y a b, x2 = x :: y ∧ a2 = a ++ b ∧ TOk C G H t x a ∧ TAll C G H r y b := by
  cases h with
  | cons h1 h2 => exact ⟨_, _, _, _, rfl, rfl, h1, h2⟩
/-- the list at p, its rows done and left, all hidden -/
structure Rws (C : Cc) (w0 w : WS) (p : Addr) (xs : List V) (us ts : List Tr) (k : Nat) (as1 as2 : List Addr) : Prop where
  at_ : w.H p = some (.lst xs)
  kk : k = us.length
  len : xs.length = us.length + ts.length
  a1 : TAll C w.G w.H us (xs.take k) as1
  a2 : TAll C w.G w.H ts (xs.drop k) as2
  hid : Hid w (p :: (as1 ++ as2))
  src : ∀ a ∈ p :: (as1 ++ as2), w0.H a = none ∨ ∃ j, w0.fp j a
theorem Rws.step {C : Cc} {w0 w w1 : WS} {p : Addr} {xs : List V} {us ts : List Tr} {k : Nat} {as1 as2 : List Addr} (r : Rws C w0 w p xs us ts k as1 as2) (f : Frm w w1) : Rws C w0 w1 p xs us ts k as1 as2 := by
  obtain ⟨h1, h2⟩ := r.hid.step f
  exact ⟨(h2 p List.mem_cons_self).1.trans r.at_, r.kk, r.len, r.a1.mono f.g fun a ha => h2 a (List.mem_cons_of_mem _ (List.mem_append_left _ ha)), r.a2.mono f.g fun a ha => h2 a (List.mem_cons_of_mem _ (List.mem_append_right _ ha)), h1, r.src⟩
end
end VL
set_option maxRecDepth 100000
namespace VL
open PySem L2 PySem.Spec PyProof.Rows
open PySem.W (alike minD AlikeAll)
open PySem.SeqAt (shaped)
end VL
set_option maxRecDepth 100000
namespace VL
open PySem L2 PySem.Spec PyProof.Rows
end VL
set_option maxRecDepth 100000
namespace VL
open PySem L2 PySem.Spec PyProof.Rows
end VL
set_option maxRecDepth 100000
namespace VL
open PySem L2
def fIce (f : FE) : FE := fun e => bnd (f e) fun o e1 => (fz e1 o).bind fun p => some (.ok (.b (.fr p.1)) p.2)
section
variable {X : Cx} {ρ : Nat → Res} {W : WX} {a : Expr} {fa : FE}
theorem ve_ice (h : VE X ρ W a fa) : VE X ρ W a (fIce fa) := by
  obtain ⟨t, p, s⟩ := h
  refine ⟨t, p, fun π e σ w Q m h => ?_⟩
  refine s π e σ w _ m (h.bnd fun o1 e1 v1 w1 m1 f1 k1 h1 => ?_)
  cases q : fz e1 o1 with
  | none => rw [q] at h1; exact h1.elim
  | some pr =>
    rw [q] at h1
    obtain ⟨w2, m2, f2, eH, r2⟩ := fz_sound (e' := pr.2) m1 f1 k1 q
    rw [← eH]
    exact h1 v1 w2 m2 f2 (.fr r2)
end
end VL
set_option maxRecDepth 100000
namespace VL
open PySem L2
def lendE (e : Env) : Env := e.map fun c => c.bind lent
def allO (e : Env) : List O := (List.range e.length).map .s
section
variable {C : Cc} {W : WX} {π : List (Nat × V)} {e e' : Env} {σ : St} {w w0 w1 : WS}
theorem at_lend {i : Nat} {y : B} (h : at? (lendE e) i = some y) : ∃ x, at? e i = some x ∧ lent x = some y ∧ i < e.length := by
  unfold at? lendE at h
  rw [List.getElem?_map] at h
  unfold at?
  cases q : e[i]? with
  | none => rw [q] at h; cases h
  | some c =>
    rw [q] at h
    cases c with
    | none => cases h
    | some x =>
      have h' : (lent x) = some y := by
        have h2 : (match (some ((some x : Option B).bind lent) : Option (Option B)) with | some b => b | none => none) = some y := h
        exact h2
      exact ⟨x, rfl, h', (List.getElem?_eq_some_iff.mp q).1⟩
end
/-- the rows of a list at p from k on, hidden -/
structure Tl (C : Cc) (w0 w : WS) (p : Addr) (xs : List V) (ts : List Tr) (k : Nat) (as : List Addr) : Prop where
  at_ : w.H p = some (.lst xs)
  len : xs.length = k + ts.length
  al : TAll C w.G w.H ts (xs.drop k) as
  hid : Hid w (p :: as)
  src : ∀ a ∈ p :: as, w0.H a = none ∨ ∃ j, w0.fp j a
theorem Tl.step {C : Cc} {w0 w w1 : WS} {p : Addr} {xs : List V} {ts : List Tr} {k : Nat} {as : List Addr} (r : Tl C w0 w p xs ts k as) (f : Frm w w1) : Tl C w0 w1 p xs ts k as := by
  obtain ⟨h1, h2⟩ := r.hid.step f
  exact ⟨(h2 p List.mem_cons_self).1.trans r.at_, r.len, r.al.mono f.g fun a ha => h2 a (List.mem_cons_of_mem _ ha), h1, r.src⟩
/-- the next row out of it, into the free slot j -/
theorem Tl.next {C : Cc} {π : List (Nat × V)} {e : Env} {σ : St} {w0 w : WS} {p : Addr} {xs : List V} {t : Tr} {ts : List Tr} {k j : Nat} {as : List Addr} {fl : Bool} {b : B} (r : Tl C w0 w p xs (t :: ts) k as) (m : Mt C π (e.set j none) σ w) (f : Frm w0 w) (hj : j < e.length) (hp : ∀ q ∈ π, q.1 ≠ j) (hb : rowB fl t = some b) :
    ∃ (hk : k < xs.length) (w' : WS) (a1 a2 : List Addr), as = a1 ++ a2 ∧ Mt C π ((e.set j none).set j (some b)) (σ.set j (some xs[k])) w' ∧ Frm w0 w' ∧ w'.H = w.H ∧ w'.G = w.G ∧ Tl C w0 w' p xs ts (k + 1) a2 ∧ (∀ l a, w'.fp l a → w.fp l a ∨ a ∈ a1) := by
  have hlt : k < xs.length := by rw [r.len, List.length_cons]; omega
  refine ⟨hlt, ?_⟩
  have al := r.al
  rw [List.drop_eq_getElem_cons hlt] at al
  obtain ⟨x, ys, at_, ar, ex, ea, tt, tr⟩ := TAll.at al
  cases ex
  subst ea
  have sub1 : at_.Sublist (p :: (at_ ++ ar)) := (List.sublist_append_left at_ ar).trans (List.sublist_cons_self _ _)
  have sub2 : (p :: ar).Sublist (p :: (at_ ++ ar)) := List.Sublist.cons_cons p (List.sublist_append_right at_ ar)
  have hidt : Hid w at_ := r.hid.sub sub1
  have hidr : Hid w (p :: ar) := r.hid.sub sub2
  have dsj : ∀ a ∈ at_, a ∉ p :: ar := fun a ha z => by
    obtain ⟨d1, d2⟩ := List.nodup_cons.mp r.hid.nd
    obtain ⟨d3, d4, d5⟩ := List.nodup_append.mp d2
    rcases List.mem_cons.mp z with rfl | z
    · exact d1 (List.mem_append_left _ ha)
    · exact d5 a ha a z rfl
  have hl : j < (e.set j none).length := by rw [List.length_set]; exact hj
  have m3 : Mt C π (e.set j none) (σ.set j (some xs[k])) w := m.sfree (at_set_lt hj) hp
  have hjs : (σ.set j (some xs[k]))[j]? = some (some xs[k]) := List.getElem?_set_self (by rw [← m.len]; exact hl)
  obtain ⟨m4, f4⟩ := m3.give (w0 := w0) f hjs (fun fp hfp => by
    have := bok_rowB hb tt hidt.nd
    have e1 : (fun a => a ∈ at_) = fp := by funext a; exact propext (hfp a).symm
    rw [e1] at this
    exact this) hidt (fun a ha => r.src a (sub1.subset ha))
  refine ⟨_, at_, ar, rfl, m4, f4, rfl, rfl, ⟨r.at_, by rw [r.len, List.length_cons]; omega, tr, ⟨hidr.nd, hidr.g, hidr.h, fun a ha l z => ?_⟩, fun a ha => r.src a (sub2.subset ha)⟩, fun l a z => ?_⟩
  · have z' : (if l = j then a ∈ at_ else w.fp l a) := z
    by_cases hl : l = j
    · rw [if_pos hl] at z'
      exact dsj a z' ha
    · rw [if_neg hl] at z'
      exact hidr.n a ha l z'
  · have z' : (if l = j then a ∈ at_ else w.fp l a) := z
    by_cases hl : l = j
    · rw [if_pos hl] at z'
      exact .inr z'
    · rw [if_neg hl] at z'
      exact .inl z'
end VL
set_option maxRecDepth 100000
namespace VL
open PySem L2
def lcTurn (t : FT) (f : FE) (vs : List Nat) (K : List Tr → Env → Option (Out O)) (acc : List Tr) (e1 : Env) : Option (Out O) := match t e1 with
  | some (.ok true e2) => match f e2 with
    | some (.ok o e3) => (ownT e3 o).bind fun p => if acc.length < big then K (acc ++ [p.1]) (forget vs p.2) else none
    | _ => none
  | some (.ok false e2) => K acc (forget vs e2)
  | _ => none
def fLcTL (g : FG) (t : FT) (f : FE) (vs : List Nat) : List PyData → List Tr → Env → Option (Out O)
  | [], acc, e => some (.ok (.b (.tr (.nd .lst acc))) e)
  | d :: ds, acc, e => match g d e with
    | some e1 => lcTurn t f vs (fun acc e => fLcTL g t f vs ds acc e) acc e1
    | none => none
def fLcT (fi : FI) (g : FG) (t : FT) (f : FE) (vs : List Nat) : FE := fun e => bnd (fi e) fun ds e1 => fLcTL g t f vs ds [] (forget vs e1)
/-- what a comprehension holds, hidden; and what else is hidden -/
structure Acc (C : Cc) (w0 w : WS) (D : Addr) (xs : List V) (acc : List Tr) (as ex : List Addr) : Prop where
  at_ : w.H D = some (.lst xs)
  al : TAll C w.G w.H acc xs as
  hid : Hid w (D :: (as ++ ex))
  src : ∀ a ∈ D :: as, w0.H a = none ∨ ∃ j, w0.fp j a
theorem Acc.step {C : Cc} {w0 w w1 : WS} {D : Addr} {xs : List V} {acc : List Tr} {as ex : List Addr} (r : Acc C w0 w D xs acc as ex) (f : Frm w w1) : Acc C w0 w1 D xs acc as ex := by
  obtain ⟨h1, h2⟩ := r.hid.step f
  exact ⟨(h2 D List.mem_cons_self).1.trans r.at_, r.al.mono f.g fun a ha => h2 a (List.mem_cons_of_mem _ (List.mem_append_left _ ha)), h1, r.src⟩
theorem Acc.out {C : Cc} {σ : St} {w0 w : WS} {D : Addr} {xs : List V} {acc : List Tr} {as ex : List Addr} (r : Acc C w0 w D xs acc as ex) : OOk C σ w0 w (.b (.tr (.nd .lst acc))) (.ref D) := by
  have sub : (D :: as).Sublist (D :: (as ++ ex)) := List.Sublist.cons_cons D (List.sublist_append_left as ex)
  have h := r.hid.sub sub
  exact ⟨fun a => a ∈ D :: as, ⟨D :: as, .lst (h.g D List.mem_cons_self) r.at_ r.al, h.nd, fun _ => Iff.rfl⟩, fun a ha => ⟨r.src a ha, h.n a ha⟩⟩
theorem lc_turn {C : Cc} {W : WX} {tt : TT} {te : TE} {ta : FT} {fa : FE} {vs : List Nat} (st : ST C W0 tt ta) (sf : SE C W0 te fa) {σ σ3 : St} {w w3 : WS} {e3 : Env} {D : Addr} {xs : List V} {acc : List Tr} {as ex : List Addr} {π : List (Nat × V)} {Kf : List Tr → Env → Option (Out O)} {Q : VK}
    (hw : L2.wipe σ3 vs = L2.wipe σ vs) (hl : σ3.length = σ.length) (m3 : Mt C [] e3 σ3 w3) (fr : Frm w w3) (hD : w.H D = none) (A : Acc C w w3 D xs acc as ex) (N : Hp → Prop)
    (hN : ∀ e' w' acc' xs' as', Mt C [] e' (L2.wipe σ vs) w' → (∀ j b, at? e' j = some b → j ∉ vs) → Frm w w' → Same w3.G w'.G → Acc C w w' D xs' acc' as' ex → (∀ a ∈ ex, w'.H a = w3.H a ∧ w'.G a = w3.G a) → Post C W π σ w (Kf acc' e') (OOk C σ w) Q → N w'.H)
    (h : Post C W π σ w (lcTurn ta fa vs Kf acc e3) (OOk C σ w) Q) :
    tt σ3 w3.H fun b H3 => if b = true then te σ3 H3 fun y H4 => ∃ acc, H4 D = some (.lst acc) ∧ acc.length < sizeLine ∧ N (upd H4 D (.lst (acc ++ [y]))) else N H3 := by
  have ww := wipe_wipe (σ := σ) (vs := vs)
  refine st [] e3 σ3 w3 _ m3 ?_
  unfold lcTurn at h
  cases qt : ta e3 with
  | none => rw [qt] at h; exact h.elim
  | some ot =>
    rw [qt] at h
    cases ot with
    | ex c e => exact h.elim
    | ok bt e4 =>
      intro b w4 m4 f4 eb
      subst eb
      have A4 := A.step f4
      have x4 : ∀ a ∈ ex, w4.H a = w3.H a ∧ w4.G a = w3.G a := fun a ha => (A.hid.step f4).2 a (List.mem_cons_of_mem _ (List.mem_append_right _ ha))
      cases bt with
      | false =>
        rw [if_neg Bool.false_ne_true]
        obtain ⟨w5, m5, f5, eH5, eG5, _⟩ := m4.forget (vs := vs)
        rw [← eH5]
        exact hN _ w5 acc xs as (m5.unwipe (π := []) (vs := vs) (by rw [ww]; exact hw) (by rw [wipe_length]; exact hl) (fun j b q => (at_forget q).2) (fun p h => by cases h)) (fun j b q => (at_forget q).2) ((fr.trans f4).trans f5) (f4.trans f5).g (A4.step f5)
          (fun a ha => ⟨by rw [eH5]; exact (x4 a ha).1, by rw [eG5]; exact (x4 a ha).2⟩) h
      | true =>
        rw [if_pos rfl]
        dsimp only at h
        refine sf [] e4 σ3 w4 _ m4 ?_
        cases qf : fa e4 with
        | none => rw [qf] at h; exact h.elim
        | some of_ =>
          rw [qf] at h
          cases of_ with
          | ex c e => exact h.elim
          | ok o e5 =>
            intro yv w5 m5 f5 k5
            dsimp only at h
            cases qz : ownT e5 o with
            | none => rw [qz] at h; exact h.elim
            | some pz =>
              rw [qz, Option.bind_some] at h
              obtain ⟨w6, m6, f6, eH6, eG6, fp, ⟨bs, b1, b3, b4⟩, b2⟩ := ownT_sound (e' := pz.2) m5 f5 k5 qz
              split at h
              case isFalse => exact h.elim
              case isTrue hbig =>
                obtain ⟨w7, m7, f7, eH7, eG7, hl7⟩ := m6.forget (vs := vs)
                have A7 := (A4.step f6).step f7
                have hlen := A7.al.length
                refine ⟨xs, by rw [← eH6, ← eH7]; exact A7.at_, by rw [hlen]; exact Nat.lt_of_lt_of_le hbig big_le, ?_⟩
                have dj : ∀ a ∈ bs, a ∉ D :: (as ++ ex) := fun a ha z => by
                  obtain ⟨o, ho⟩ := A4.hid.h a z
                  rcases (b2 a ((b4 a).mpr ha)).1 with r | ⟨i, r⟩
                  · rw [ho] at r; cases r
                  · exact A4.hid.n a z i r
                have hDb : ∀ a ∈ as ++ bs ++ ex, a ≠ D := fun a ha z => by
                  subst z
                  obtain ⟨d1, _⟩ := List.nodup_cons.mp A7.hid.nd
                  rcases List.mem_append.mp ha with ha | ha
                  · rcases List.mem_append.mp ha with ha | ha
                    · exact d1 (List.mem_append_left _ ha)
                    · exact dj _ ha List.mem_cons_self
                  · exact d1 (List.mem_append_right _ ha)
                have hnD : ∀ j, ¬ w7.fp j D := A7.hid.n D List.mem_cons_self
                have hGD : w7.G D = none := A7.hid.g D List.mem_cons_self
                have m7' := m7.unwipe (σ := L2.wipe σ vs) (π := []) (vs := vs) (by rw [ww]; exact hw) (by rw [wipe_length]; exact hl) (fun j b q => (at_forget q).2) (fun p h => by cases h)
                have m8 : Mt C [] (forget vs pz.2) (L2.wipe σ vs) { w7 with H := upd w7.H D (.lst (xs ++ [yv])) } := by
                  refine ⟨m7'.len, fun a u qa => ?_, m7'.tg.put (fun _ h => by cases h), fun j b qb => ?_, m7'.non, m7'.dis, m7'.pin⟩
                  · show upd w7.H D (.lst (xs ++ [yv])) a = some u
                    rw [upd_ne (ne_of_none qa hGD)]
                    exact m7'.sub a u qa
                  · obtain ⟨v, b1, b2⟩ := m7'.bok j b qb
                    refine ⟨v, b1, b2.mono (Same.refl _) fun a ha => ⟨upd_ne fun z => hnD j (by rw [← z]; exact ha), rfl⟩⟩
                have f37 : Frm w3 w7 := (f4.trans f6).trans f7
                have fw7 := fr.trans f37
                have tok7 : TOk C w7.G w7.H pz.1 yv bs := by rw [eH7, eG7]; exact b1
                have nd8 : (D :: (as ++ bs ++ ex)).Nodup := by
                  obtain ⟨d1, d2⟩ := List.nodup_cons.mp A7.hid.nd
                  obtain ⟨d3, d4, d5⟩ := List.nodup_append.mp d2
                  refine List.nodup_cons.mpr ⟨fun z => hDb _ z rfl, List.nodup_append.mpr ⟨List.nodup_append.mpr ⟨d3, b3, fun a ha b hb z => ?_⟩, d4, fun a ha b hb z => ?_⟩⟩
                  · subst z
                    exact dj _ hb (List.mem_cons_of_mem _ (List.mem_append_left _ ha))
                  · rcases List.mem_append.mp ha with ha | ha
                    · exact d5 a ha b hb z
                    · subst z
                      exact dj _ ha (List.mem_cons_of_mem _ (List.mem_append_right _ hb))
                have A8 : Acc C w { w7 with H := upd w7.H D (.lst (xs ++ [yv])) } D (xs ++ [yv]) (acc ++ [pz.1]) (as ++ bs) ex := by
                  refine ⟨upd_same, (A7.al.append (TAll.one tok7)).mono (Same.refl _) fun a ha => ⟨upd_ne (hDb a (List.mem_append_left _ ha)), rfl⟩, ⟨nd8, fun a ha => ?_, fun a ha => ?_, fun a ha j z => ?_⟩, fun a ha => ?_⟩
                  · rcases List.mem_cons.mp ha with rfl | ha
                    · exact hGD
                    · rcases List.mem_append.mp ha with ha | ha
                      · rcases List.mem_append.mp ha with ha | ha
                        · exact A7.hid.g a (List.mem_cons_of_mem _ (List.mem_append_left _ ha))
                        · exact (tok7.own a ha).1
                      · exact A7.hid.g a (List.mem_cons_of_mem _ (List.mem_append_right _ ha))
                  · by_cases z : a = D
                    · exact ⟨_, by rw [z]; exact upd_same⟩
                    · have key : ∃ o, w7.H a = some o := by
                        rcases List.mem_cons.mp ha with rfl | ha
                        · exact absurd rfl z
                        · rcases List.mem_append.mp ha with ha | ha
                          · rcases List.mem_append.mp ha with ha | ha
                            · exact A7.hid.h a (List.mem_cons_of_mem _ (List.mem_append_left _ ha))
                            · exact (tok7.own a ha).2
                          · exact A7.hid.h a (List.mem_cons_of_mem _ (List.mem_append_right _ ha))
                      obtain ⟨o, ho⟩ := key
                      exact ⟨o, (upd_ne z).trans ho⟩
                  · have z' : w7.fp j a := z
                    rcases List.mem_cons.mp ha with rfl | ha
                    · exact hnD j z'
                    · rcases List.mem_append.mp ha with ha | ha
                      · rcases List.mem_append.mp ha with ha | ha
                        · exact A7.hid.n a (List.mem_cons_of_mem _ (List.mem_append_left _ ha)) j z'
                        · exact (b2 a ((b4 a).mpr ha)).2 j (hl7 j a z')
                      · exact A7.hid.n a (List.mem_cons_of_mem _ (List.mem_append_right _ ha)) j z'
                  · rcases List.mem_cons.mp ha with rfl | ha
                    · exact A7.src _ List.mem_cons_self
                    · rcases List.mem_append.mp ha with ha | ha
                      · exact A7.src a (List.mem_cons_of_mem _ ha)
                      · exact (fr.trans f4).back (b2 a ((b4 a).mpr ha)).1
                have := hN (forget vs pz.2) { w7 with H := upd w7.H D (.lst (xs ++ [yv])) } (acc ++ [pz.1]) (xs ++ [yv]) (as ++ bs) m8 (fun j b q => (at_forget q).2) ⟨fw7.g, fun a o ha hna => by
                    obtain ⟨b1, b2, b3⟩ := fw7.k a o ha hna
                    refine ⟨?_, b2, b3⟩
                    show upd w7.H D _ a = some o
                    rw [upd_ne (ne_of_none ha hD)]
                    exact b1, fun a ha => by
                    by_cases z : a = D
                    · rw [z]; exact hD
                    · have ha' : upd w7.H D (.lst (xs ++ [yv])) a = none := ha
                      rw [upd_ne z] at ha'
                      exact fw7.t a ha'⟩ f37.g A8 (fun a ha => by
                    have k := (A.hid.step f37).2 a (List.mem_cons_of_mem _ (List.mem_append_right _ ha))
                    exact ⟨(upd_ne (hDb a (List.mem_append_right _ ha))).trans k.1, k.2⟩) h
                rw [← eH6, ← eH7]
                exact this
section
variable {W : WX} {ta : FT} {fa fx : FE} {fi : FI} {ft : FG}
theorem se_lcT {C : Cc} {wi : TI} {t : TG} {tt : TT} {te : TE} {vs : List Nat} (si : SI C W wi fi) (sg : SG C [] t ft) (wg : WipeG t vs) (st : ST C W0 tt ta) (sf : SE C W0 te fa) : SE C W (tLc wi t tt te vs) (fLcT fi ft ta fa vs) := fun π e σ w Q m h => by
  refine si π e σ w _ m (h.bnd fun ds e1 J w1 m1 f1 k1 h1 => ?_)
  intro D hD
  obtain ⟨wf, mf, ff, eHf, eGf, hlf⟩ := m1.forget (vs := vs)
  have hDf : wf.H D = none := by rw [eHf]; exact hD
  have hDw : w.H D = none := f1.t D hD
  have hG1 : wf.G D = none := mf.sub.free hDf
  have m2 := mf.new (o := .lst []) hDf
  have f2 := Frm.new (o := .lst []) hDf
  have hno : ∀ i, ¬ (wf.new D (.lst [])).fp i D := fun i => mf.notOwned hDf i
  have mw : Mt C [] (forget vs e1) (L2.wipe σ vs) (wf.new D (.lst [])) := m2.wipe fun i b q => (at_forget q).2
  have A0 : Acc C w (wf.new D (.lst [])) D [] [] [] [] := ⟨upd_same, .nil, ⟨by simp, fun a ha => by
    have : a = D := by simpa using ha
    subst this
    exact hG1, fun a ha => by
    have : a = D := by simpa using ha
    subst this
    exact ⟨_, upd_same⟩, fun a ha => by
    have : a = D := by simpa using ha
    subst this
    exact hno⟩, fun a ha => by
    have : a = D := by simpa using ha
    subst this
    exact .inl hDw⟩
  refine ⟨fun i n H' => n = ds.length - i ∧ i ≤ ds.length ∧ ∃ e' w' acc xs as, w'.H = H' ∧ Mt C [] e' (L2.wipe σ vs) w' ∧ (∀ j b, at? e' j = some b → j ∉ vs) ∧ Frm w w' ∧ Same w1.G w'.G ∧ Acc C w w' D xs acc as [] ∧ Post C W π σ w (fLcTL ft ta fa vs (ds.drop i) acc e') (OOk C σ w) Q,
    ⟨ds.length, by simp, Nat.zero_le _, forget vs e1, wf.new D (.lst []), [], [], [], by rw [show (wf.new D (.lst [])).H = upd wf.H D (.lst []) from rfl, eHf], mw, fun j b q => (at_forget q).2, (f1.trans ff).trans f2, (ff.trans f2).g, A0, by rw [List.drop_zero]; exact h1⟩, ?_⟩
  rintro i n H' ⟨rfl, hi, e', w', acc, xs, as, rfl, m', hv', frw, sG, A, h3⟩
  obtain ⟨go, stop, yld⟩ := k1 i [] e' _ w' m' sG
  by_cases hlt : i < ds.length
  · refine .inr ⟨go hlt, fun H2 => i + 1 ≤ ds.length ∧ ∃ e' w' acc xs as, w'.H = H2 ∧ Mt C [] e' (L2.wipe σ vs) w' ∧ (∀ j b, at? e' j = some b → j ∉ vs) ∧ Frm w w' ∧ Same w1.G w'.G ∧ Acc C w w' D xs acc as [] ∧ Post C W π σ w (fLcTL ft ta fa vs (ds.drop (i + 1)) acc e') (OOk C σ w) Q,
      fun H2 q => ⟨ds.length - (i + 1), by omega, rfl, q⟩, fun x H2 y => ?_⟩
    obtain ⟨w2, m2, f2, eH2, r2⟩ := yld x H2 y ds[i] (List.getElem?_eq_getElem hlt)
    subst eH2
    rw [List.drop_eq_getElem_cons hlt] at h3
    unfold fLcTL at h3
    cases q : ft ds[i] e' with
    | none => rw [q] at h3; exact h3.elim
    | some e3 =>
      rw [q] at h3
      dsimp only at h3
      have ww := wipe_wipe (σ := σ) (vs := vs)
      exact wg x _ _ _ _ ww (sg [] e' _ w2 ds[i] x e3 _ (fun p h => by cases h) m2 r2 q fun σ3 w3 m3 f3 _ hw hl =>
        lc_turn st sf hw (hl.trans (wipe_length σ vs)) m3 ((frw.trans f2).trans f3) hDw ((A.step f2).step f3) _ (fun e5 w5 acc5 xs5 as5 g1 g2 g3 g4 g5 _ g7 => ⟨hlt, e5, w5, acc5, xs5, as5, rfl, g1, g2, g3, (sG.trans (f2.trans f3).g).trans g4, g5, g7⟩) h3)
  · have e2 : i = ds.length := by omega
    subst e2
    rw [List.drop_length] at h3
    refine .inl ⟨stop (Nat.le_refl _), ?_⟩
    have mu : Mt C π e' σ w' := m'.unwipe (σ := σ) (vs := vs) wipe_wipe (wipe_length σ vs) hv' m.pin
    exact h3 (.ref D) w' mu frw A.out
end
section
variable {X : Cx} {ρ : Nat → Res} {W : WX} {pn : List Nat} {tg iter elt : Expr} {ifs : List Expr} {pos : Pos} {fa fx : FE} {ta : FT} {fi : FI} {ft : FG}
/-- name = [..], the name a local -/
theorem vs_asgLcT {scope : Scope} {y : Str} {py spos : Pos} {t : TG} (V0 : Vx X W) (i : Nat) (own : List (Str × Nat)) (hi : VI X ρ W tg iter fi) (ok : blkC X.N X.env.scope scope own = true)
    (hg : ∀ (s : Shared) (H : Hp) (C : Addr) (cl : List (Str × Addr)) (fp : List Addr), PG (X.blk s H scope (compEnvC scope cl C X.env) fp) tg t) (sg : SG (cc X ρ) [] t ft) (wg : WipeG t (own.map (·.2)))
    (ht : ∀ (s : Shared) (H : Hp) (C : Addr) (cl : List (Str × Addr)) (fp : List Addr), Vx (X.blk s H scope (compEnvC scope cl C X.env) fp) W0 → VC (X.blk s H scope (compEnvC scope cl C X.env) fp) ρ ifs ta)
    (he : ∀ (s : Shared) (H : Hp) (C : Addr) (cl : List (Str × Addr)) (fp : List Addr), Vx (X.blk s H scope (compEnvC scope cl C X.env) fp) W0 → VE (X.blk s H scope (compEnvC scope cl C X.env) fp) ρ W0 elt fa)
    (hsw : swapsWith (.ListComp elt [⟨tg, iter, ifs, 0⟩] scope pos) (some (.Name y py)) spos.line X.env = pure true) (hy : X.N[i]? = some y := by rfl) (hyl : X.env.scope.names.lookup y = some .local := by rfl) (hp : i ∉ pn := by decide)
    (hs : ∀ x, foldedSetIterable iter X.env x = pure x := by intro _; rfl) :
    VS X ρ W pn (.Assign [.Name y py] (.ListComp elt [⟨tg, iter, ifs, 0⟩] scope pos) spos) (sOwnT i (fLcT fi ft ta fa (own.map (·.2)))) := by
  obtain ⟨wi, pi, si⟩ := hi
  obtain ⟨tt, te, p1, p2, s1, s2⟩ := lc_parts V0 ht he
  exact ⟨_, ps_setLc V0.calm V0.nd hy hyl hsw pi (blkOk_by ok) hg p1 p2 hs, ss_ownT hp (se_lcT si sg wg s1 s2)⟩
end
end VL
set_option maxRecDepth 100000
namespace VL
open PySem L2
end VL
set_option maxRecDepth 100000
namespace VL
open PySem L2
end VL
set_option maxRecDepth 100000
namespace VL
open PySem L2
section
variable {C : Cc} {W : WX} {π : List (Nat × V)} {e e' : Env} {σ σ' : St} {w w0 w1 : WS}
/-- what slots hold, pinned -/
def pins (σ : St) (e : Env) (ks : List Nat) : List (Nat × V) := ks.filterMap fun k => match at? e k, σ[k]? with
  | some _, some (some v) => some (k, v)
  | _, _ => none
theorem pins_sub {ks : List Nat} : ∀ p ∈ pins σ e ks, p.1 ∈ ks ∧ σ[p.1]? = some (some p.2) := fun p hp => by
  unfold pins at hp
  obtain ⟨k, hk, h⟩ := List.mem_filterMap.mp hp
  split at h
  · rename_i h1 h2
    cases h
    exact ⟨hk, h2⟩
  · cases h
theorem pins_mem {ks : List Nat} {k : Nat} {b : B} {v : V} (hk : k ∈ ks) (h : at? e k = some b) (hv : σ[k]? = some (some v)) : (k, v) ∈ pins σ e ks := by
  unfold pins
  refine List.mem_filterMap.mpr ⟨k, hk, ?_⟩
  rw [h, hv]
end
end VL
set_option maxRecDepth 100000
namespace VL
open PySem L2 PySem.Spec PyProof.Rows
end VL
set_option maxRecDepth 100000
namespace VL
open PySem L2
end VL
set_option maxRecDepth 100000
set_option maxHeartbeats 2000000
namespace VL
open PySem L2 PySem.Spec PyProof.Rows
/-- what holds within an except suite -/
structure Vh (X : Cx) (W : WX) : Prop where
  room : L2H.RoomH 1 X.A
  gd : X.A.guards = some []
  sm : SmB X.base
  nd : X.N.Nodup
  tk : Takes X W
theorem Vh.u66 {X : Cx} {W : WX} (V0 : Vh X W) : X.A.units + 66 < cLine := by have := V0.room.un; omega
end VL
set_option maxRecDepth 100000
set_option maxHeartbeats 2000000
namespace VL
open PySem L2 PySem.Spec PyProof.Rows
/-- what a def promises there -/
structure FnU (P : Program) (w : World) (K : PySem.W.Frag) (mg : Str → Option Value) (base : Heap) (k : Nat) (f : Addr) (fd : FuncData) (ps : List Str) (sp : Sp) : Prop where
  cnt : ∀ vs H Q E, sp vs H Q E → vs.length = ps.length
  go : ∀ (A : Around) (out : List PySem.Env) (s : Shared) (H : Hp) (ar : Args) (us : List Value) (vs : List V) (Q : VK) (E : XK), L2H.RoomH k A → A.guards = some [] → SmB base → Env0 P w K mg base A out s H → BindsTo s fd ar (ps.zip us) → Vals vs us → sp vs H Q E →
    codeAny (model P w) A (.call (.ref f) ar) (CR (L2.CX P w) out P w H s Q E) s
section
variable {X : Cx} {k : Nat} {f : Addr} {fd : FuncData} {ps : List Str} {sp : Sp} {E : L2.St → XK} {x : Str} {p pos : Pos} {e : Expr} {es : List Expr} {t : TA}
theorem FnU.runs {pins : List (Addr × Obj)} {σ : L2.St} {H : Hp} {s : Shared} {Q : VK} {us : List Value} {vs : List V} (Fu : FnU X.prog X.w X.K X.mg X.base k f fd ps sp) (rh : L2H.RoomH k X.A) (gd : X.A.guards = some []) (sm : SmB X.base) (bn : Binds X.K fd ps [])
    (ps1 : PassesAt (L2.CX X.prog X.w) X σ (E σ)) (J : Inv X pins σ H s) (rv : Vals vs us) (hs : sp vs H Q (E σ)) : wpAny (model X.prog X.w) X.A (call (.ref f) us) (EP X pins σ Q) X.xe s := by
  have ln : us.length = ps.length := rv.length.symm.trans (Fu.cnt _ _ _ _ hs)
  have bb := bn s us J.kIn (by rw [List.append_nil, ln]); rw [List.append_nil] at bb
  refine wpAny_call (codeAny_mono (Fu.go X.A X.stack s H ⟨us, []⟩ us vs Q (E σ) rh gd sm J.env0 bb rv hs) fun res s2 ce => ?_)
  rcases res with er | fl
  · exact ps1 pins H s er s2 J ce
  · rcases fl with _ | _ | _ | u
    all_goals first | exact J.after ce | exact ce.elim
end
end VL
set_option maxRecDepth 100000
namespace VL
open PySem L2 PySem.Spec PyProof.Rows
end VL
set_option maxRecDepth 100000
namespace VL
open PySem L2
/-- a child's number -/
def Tr.ix : Tr → Int → Option Nat
  | .nd .lst ts, k => ixN ts.length k
  | .nd .tup ts, k => ixN ts.length k
  | _, _ => none
def Tr.sub : Tr → List Nat → Option Tr
  | t, [] => some t
  | .nd .lst ts, k :: ks => ts[k]?.bind fun t => t.sub ks
  | .nd .tup ts, k :: ks => ts[k]?.bind fun t => t.sub ks
  | _, _ :: _ => none
def Tr.put : Tr → List Nat → Tr → Option Tr
  | _, [], s => some s
  | .nd .lst ts, k :: ks, s => ts[k]?.bind fun t => (t.put ks s).map fun t' => .nd .lst (ts.set k t')
  | .nd .tup ts, k :: ks, s => ts[k]?.bind fun t => (t.put ks s).map fun t' => .nd .tup (ts.set k t')
  | _, _ :: _, _ => none
/-- from v by items to u -/
def Walk (H : Hp) : V → List Nat → V → Prop
  | v, [], u => v = u
  | v, k :: ks, u => ∃ p xs x, v = .ref p ∧ (H p = some (.lst xs) ∨ H p = some (.tup xs)) ∧ xs[k]? = some x ∧ Walk H x ks u
theorem Walk.fn {H : Hp} : ∀ {ks : List Nat} {v u u' : V}, Walk H v ks u → Walk H v ks u' → u = u'
  | [], _, _, _, h, h' => h.symm.trans h'
  | k :: ks, _, _, _, ⟨p, xs, x, e, h1, h2, h3⟩, ⟨p', xs', x', e', h1', h2', h3'⟩ => by
    rw [e] at e'
    cases e'
    have : xs = xs' := by
      rcases h1 with h1 | h1 <;> rcases h1' with h1' | h1' <;> rw [h1] at h1' <;> cases h1' <;> rfl
    subst this
    rw [h2] at h2'
    cases h2'
    exact Walk.fn h3 h3'
theorem Walk.snoc {H : Hp} : ∀ {ks : List Nat} {v u x : V} {p : Addr} {xs : List V} {k : Nat}, Walk H v ks u → u = .ref p → (H p = some (.lst xs) ∨ H p = some (.tup xs)) → xs[k]? = some x → Walk H v (ks ++ [k]) x
  | [], _, _, x, p, xs, k, h, e, h1, h2 => ⟨p, xs, x, h.trans e, h1, h2, rfl⟩
  | j :: ks, _, _, x, p, xs, k, ⟨q, ys, y, e1, g1, g2, g3⟩, e, h1, h2 => ⟨q, ys, y, e1, g1, g2, Walk.snoc g3 e h1 h2⟩
theorem ixN_lt {n : Nat} {k : Int} {j : Nat} (h : ixN n k = some j) : j < n := (ixN_seq h).2.1
theorem Tr.sub_snoc : ∀ {js ks : List Nat} {t s : Tr}, t.sub js = some s → t.sub (js ++ ks) = s.sub ks
  | [], ks, t, s, h => by rw [Tr.sub] at h; cases h; rfl
  | j :: js, ks, t, s, h => by
    rw [List.cons_append]
    match t, h with
    | .fr d, h => rw [Tr.sub] at h <;> first | cases h | (intros; contradiction)
    | .nd (.ins c fs) ts, h => rw [Tr.sub] at h <;> first | cases h | (intros; contradiction)
    | .nd .lst ts, h =>
      rw [Tr.sub] at h ⊢
      cases q : ts[j]? with
      | none => rw [q] at h; cases h
      | some t1 => rw [q, Option.bind_some] at h; rw [Option.bind_some]; exact Tr.sub_snoc h
    | .nd .tup ts, h =>
      rw [Tr.sub] at h ⊢
      cases q : ts[j]? with
      | none => rw [q] at h; cases h
      | some t1 => rw [q, Option.bind_some] at h; rw [Option.bind_some]; exact Tr.sub_snoc h
section
variable {C : Cc} {G H : Hp}
theorem TAll.sub1 : ∀ {ts : List Tr} {xs : List V} {as : List Addr} {k : Nat} {t : Tr}, TAll C G H ts xs as → ts[k]? = some t → ∃ x a1 bs a2, xs[k]? = some x ∧ as = a1 ++ bs ++ a2 ∧ TOk C G H t x bs ∧
    ∀ t' bs' H', TOk C G H' t' x bs' → (∀ a ∈ a1 ++ a2, H' a = H a) → TAll C G H' (ts.set k t') xs (a1 ++ bs' ++ a2)
  | _, _, _, k, t, .nil, h => by simp at h
  | _, _, _, 0, t, .cons (as := as) (bs := bs) h1 h2, h => by
    rw [List.getElem?_cons_zero] at h
    cases h
    refine ⟨_, [], as, bs, rfl, by simp, h1, fun t' bs' H' h3 hk => ?_⟩
    rw [List.set_cons_zero, List.nil_append]
    exact .cons h3 (h2.mono (Same.refl _) fun a ha => ⟨hk a (by simpa using ha), rfl⟩)
  | _, _, _, k + 1, t, .cons (as := as) (bs := bs) h1 h2, h => by
    rw [List.getElem?_cons_succ] at h
    obtain ⟨x, a1, cs, a2, g1, g2, g3, g4⟩ := TAll.sub1 h2 h
    refine ⟨x, as ++ a1, cs, a2, by rw [List.getElem?_cons_succ]; exact g1, by rw [g2]; simp, g3, fun t' bs' H' h3 hk => ?_⟩
    have h5 := g4 t' bs' H' h3 fun a ha => hk a (by
      rcases List.mem_append.mp ha with ha | ha
      · exact List.mem_append_left _ (List.mem_append_right _ ha)
      · exact List.mem_append_right _ ha)
    have h6 := TAll.cons (h1.mono (H' := H') (Same.refl _) fun a ha => ⟨hk a (List.mem_append_left _ (List.mem_append_left _ ha)), rfl⟩) h5
    rw [List.set_cons_succ]
    simpa using h6
theorem TOk.subv : ∀ (js : List Nat) {t s : Tr} {v : V} {as : List Addr}, TOk C G H t v as → t.sub js = some s → ∃ u a1 bs a2, as = a1 ++ bs ++ a2 ∧ Walk H v js u ∧ TOk C G H s u bs ∧
    ∀ s' bs' H', TOk C G H' s' u bs' → (∀ a ∈ a1 ++ a2, H' a = H a) → ∃ t', t.put js s' = some t' ∧ TOk C G H' t' v (a1 ++ bs' ++ a2)
  | [], t, s, v, as, h, e => by
    rw [Tr.sub] at e
    cases e
    exact ⟨v, [], as, [], by simp, rfl, h, fun s' bs' H' h' _ => ⟨s', by rw [Tr.put], by simpa using h'⟩⟩
  | k :: js, t, s, v, as, h, e => by
    cases h with
    | fr r => rw [Tr.sub] at e <;> first | cases e | (intros; contradiction)
    | ins => rw [Tr.sub] at e <;> first | cases e | (intros; contradiction)
    | lst h1 h2 h3 =>
      rename_i ts p xs cs
      rw [Tr.sub] at e
      cases q : ts[k]? with
      | none => rw [q] at e; cases e
      | some t1 =>
        rw [q, Option.bind_some] at e
        obtain ⟨x, a1, bs, a2, g1, g2, g3, g4⟩ := TAll.sub1 h3 q
        obtain ⟨u, b1, ds, b2, e1, e2, e3, e4⟩ := TOk.subv js g3 e
        subst e1
        subst g2
        refine ⟨u, p :: (a1 ++ b1), ds, b2 ++ a2, by simp, ⟨p, xs, x, rfl, .inl h2, g1, e2⟩, e3, fun s' bs' H' h' hk => ?_⟩
        obtain ⟨t', z1, z2⟩ := e4 s' bs' H' h' fun a ha => hk a (by
          rcases List.mem_append.mp ha with ha | ha
          · exact List.mem_append_left _ (List.mem_cons_of_mem _ (List.mem_append_right _ ha))
          · exact List.mem_append_right _ (List.mem_append_left _ ha))
        refine ⟨.nd .lst (ts.set k t'), by rw [Tr.put, q, Option.bind_some, z1]; rfl, ?_⟩
        have h5 := g4 t' _ H' z2 fun a ha => hk a (by
          rcases List.mem_append.mp ha with ha | ha
          · exact List.mem_append_left _ (List.mem_cons_of_mem _ (List.mem_append_left _ ha))
          · exact List.mem_append_right _ (List.mem_append_right _ ha))
        have h6 := TOk.lst (G := G) (p := p) h1 ((hk p (List.mem_append_left _ List.mem_cons_self)).trans h2) h5
        simpa using h6
    | tup h1 h2 h3 =>
      rename_i ts p xs cs
      rw [Tr.sub] at e
      cases q : ts[k]? with
      | none => rw [q] at e; cases e
      | some t1 =>
        rw [q, Option.bind_some] at e
        obtain ⟨x, a1, bs, a2, g1, g2, g3, g4⟩ := TAll.sub1 h3 q
        obtain ⟨u, b1, ds, b2, e1, e2, e3, e4⟩ := TOk.subv js g3 e
        subst e1
        subst g2
        refine ⟨u, p :: (a1 ++ b1), ds, b2 ++ a2, by simp, ⟨p, xs, x, rfl, .inr h2, g1, e2⟩, e3, fun s' bs' H' h' hk => ?_⟩
        obtain ⟨t', z1, z2⟩ := e4 s' bs' H' h' fun a ha => hk a (by
          rcases List.mem_append.mp ha with ha | ha
          · exact List.mem_append_left _ (List.mem_cons_of_mem _ (List.mem_append_right _ ha))
          · exact List.mem_append_right _ (List.mem_append_left _ ha))
        refine ⟨.nd .tup (ts.set k t'), by rw [Tr.put, q, Option.bind_some, z1]; rfl, ?_⟩
        have h5 := g4 t' _ H' z2 fun a ha => hk a (by
          rcases List.mem_append.mp ha with ha | ha
          · exact List.mem_append_left _ (List.mem_cons_of_mem _ (List.mem_append_left _ ha))
          · exact List.mem_append_right _ (List.mem_append_right _ ha))
        have h6 := TOk.tup (G := G) (p := p) h1 ((hk p (List.mem_append_left _ List.mem_cons_self)).trans h2) h5
        simpa using h6
end
theorem walk_keep {C : Cc} {G H H' : Hp} : ∀ {ks : List Nat} {t s : Tr} {x z : V} {cs : List Addr}, TOk C G H t x cs → t.sub ks = some s → (∀ a ∈ cs, H' a = H a) → Walk H x ks z → Walk H' x ks z
  | [], _, _, _, _, _, _, _, _, h => h
  | q :: ks, t, s, _, z, cs, htk, hsub, hag, ⟨p, xs, y', eq, g1, g2, g3⟩ => by
    cases htk with
    | fr r => rw [Tr.sub] at hsub <;> first | cases hsub | (intros; contradiction)
    | ins => rw [Tr.sub] at hsub <;> first | cases hsub | (intros; contradiction)
    | lst n1 n2 n3 =>
      rename_i ts p' xs' ds
      cases eq
      rw [Tr.sub] at hsub
      cases qt : ts[q]? with
      | none => rw [qt] at hsub; cases hsub
      | some t1 =>
        rw [qt, Option.bind_some] at hsub
        obtain ⟨x1, c1, cs1, c2, r1, r2, r3, _⟩ := TAll.sub1 n3 qt
        have exs : xs = xs' := by
          rcases g1 with g1 | g1 <;> rw [n2] at g1 <;> cases g1 <;> rfl
        subst exs
        rw [r1] at g2
        cases g2
        exact ⟨p, xs, _, rfl, .inl ((hag p List.mem_cons_self).trans n2), r1, walk_keep r3 hsub (fun a ha => hag a (List.mem_cons_of_mem _ (by rw [r2]; exact List.mem_append_left _ (List.mem_append_right _ ha)))) g3⟩
    | tup n1 n2 n3 =>
      rename_i ts p' xs' ds
      cases eq
      rw [Tr.sub] at hsub
      cases qt : ts[q]? with
      | none => rw [qt] at hsub; cases hsub
      | some t1 =>
        rw [qt, Option.bind_some] at hsub
        obtain ⟨x1, c1, cs1, c2, r1, r2, r3, _⟩ := TAll.sub1 n3 qt
        have exs : xs = xs' := by
          rcases g1 with g1 | g1 <;> rw [n2] at g1 <;> cases g1 <;> rfl
        subst exs
        rw [r1] at g2
        cases g2
        exact ⟨p, xs, _, rfl, .inr ((hag p List.mem_cons_self).trans n2), r1, walk_keep r3 hsub (fun a ha => hag a (List.mem_cons_of_mem _ (by rw [r2]; exact List.mem_append_left _ (List.mem_append_right _ ha)))) g3⟩
abbrev PM := Tr → Env → Option (Out (List Nat))
def pmN : PM := fun _ e => some (.ok [] e)
def pmIx (p : PM) (f : FE) : PM := fun t e => bnd (p t e) fun js e1 => bnd (f e1) fun o e2 => match res e2 o with
  | some (.int k) => (t.sub js).bind fun s => (s.ix k).bind fun j => some (.ok (js ++ [j]) e2)
  | _ => none
def SP (C : Cc) (W : WX) (i : Nat) (tp : TE) (pm : PM) : Prop := ∀ π env σ w Q t v0 as, Mt C ((i, v0) :: π) env σ w → TOk C w.G w.H t v0 as → Hid w as →
  Post C W ((i, v0) :: π) σ w (pm t env) (fun w' js u => Walk w'.H v0 js u ∧ ∃ s, t.sub js = some s) Q → tp σ w.H Q
section
variable {C : Cc} {W : WX} {i : Nat} {tp ti : TE} {pm : PM} {fi : FE}
theorem sp_n : SP C W i (tVar i) pmN := fun π env σ w Q t v0 as m tk hd h => ⟨v0, m.pin (i, v0) List.mem_cons_self, h v0 w m (.refl w) ⟨rfl, t, by rw [Tr.sub]⟩⟩
theorem sp_ix (hp : SP C W i tp pm) (si : SE C W ti fi) : SP C W i (tOp (rIx C.K) tp ti) (pmIx pm fi) := fun π env σ w Q t v0 as m tk hd h => by
  refine hp π env σ w _ t v0 as m tk hd (h.bnd fun js e1 u w1 m1 f1 k1 h1 => ?_)
  obtain ⟨hd1, ag1⟩ := hd.step f1
  have tk1 : TOk C w1.G w1.H t v0 as := tk.mono f1.g ag1
  refine si _ e1 σ w1 _ m1 ((h1.from f1).bnd fun o e2 y w2 m2 f2 k2 h2 => ?_)
  obtain ⟨hd2, ag2⟩ := hd1.step f2
  have tk2 : TOk C w2.G w2.H t v0 as := tk1.mono f2.g ag2
  obtain ⟨k1, s, hs⟩ := k1
  split at h2
  case h_2 => exact h2.elim
  rename_i k hres
  rw [hs, Option.bind_some] at h2
  cases qj : s.ix k with
  | none => rw [qj] at h2; exact h2.elim
  | some j =>
    rw [qj, Option.bind_some] at h2
    obtain ⟨u', a1, bs, a2, e1', e2', e3', _⟩ := TOk.subv js tk1 hs
    obtain ⟨u2, _, bs2, _, _, g2', g3', _⟩ := TOk.subv js tk2 hs
    have eu : u = u' := Walk.fn k1 e2'
    have tks : TOk C w2.G w2.H s u bs := by
      rw [eu]
      exact e3'.mono f2.g fun a ha => ag2 a (by rw [e1']; exact List.mem_append_left _ (List.mem_append_right _ ha))
    -- the walk at w2 leads there too
    have hu2 : Walk w2.H v0 js u := walk_keep tk1 hs (fun a ha => (ag2 a ha).1) k1
    have rk := res_sound m2 k2 hres
    cases rk
    cases tks with
    | fr r => unfold Tr.ix at qj; cases qj
    | ins => unfold Tr.ix at qj; cases qj
    | lst n1 n2 n3 =>
      rename_i ts p xs cs
      have qj' : ixN ts.length k = some j := qj
      have hl := n3.length
      have hat : ∃ x, atI xs k = some x ∧ xs[j]? = some x := by
        have hj : j < xs.length := by rw [hl]; exact ixN_lt qj'
        refine ⟨xs[j], ?_, List.getElem?_eq_getElem hj⟩
        unfold L2.atI
        rw [hl, qj']
        exact List.getElem?_eq_getElem hj
      obtain ⟨x, hx1, hx2⟩ := hat
      have hsubj : ∃ s', t.sub (js ++ [j]) = some s' := by
        have hj : j < ts.length := ixN_lt qj'
        exact ⟨ts[j], by rw [Tr.sub_snoc hs]; simp [Tr.sub, List.getElem?_eq_getElem hj]⟩
      exact .inl ⟨p, xs, k, x, rfl, rfl, .of n2, hx1, h2 x w2 m2 f2 ⟨Walk.snoc hu2 rfl (.inl n2) hx2, hsubj⟩⟩
    | tup n1 n2 n3 =>
      rename_i ts p xs cs
      have qj' : ixN ts.length k = some j := qj
      have hl := n3.length
      have hat : ∃ x, atI xs k = some x ∧ xs[j]? = some x := by
        have hj : j < xs.length := by rw [hl]; exact ixN_lt qj'
        refine ⟨xs[j], ?_, List.getElem?_eq_getElem hj⟩
        unfold L2.atI
        rw [hl, qj']
        exact List.getElem?_eq_getElem hj
      obtain ⟨x, hx1, hx2⟩ := hat
      have hsubj : ∃ s', t.sub (js ++ [j]) = some s' := by
        have hj : j < ts.length := ixN_lt qj'
        exact ⟨ts[j], by rw [Tr.sub_snoc hs]; simp [Tr.sub, List.getElem?_eq_getElem hj]⟩
      exact .inr (.inl ⟨p, xs, k, x, rfl, rfl, .of n2, hx1, h2 x w2 m2 f2 ⟨Walk.snoc hu2 rfl (.inr n2) hx2, hsubj⟩⟩)
end
section
variable {C : Cc} {W : WX} {π : List (Nat × V)} {σ : St} {w w1 : WS} {α β α' β' : Type} {r : Option (Out α)} {rel : WS → α → β → Prop} {Q : β → Hp → Prop} {rel' : WS → α' → β' → Prop} {Q' : β' → Hp → Prop} {k : α → Env → Option (Out α')} {q : Nat × V}
theorem Post.bndP {w0 : WS} {Q' : β' → Hp → Prop} {rel' : WS → α' → β' → Prop} (h : Post C W π σ w0 (VL.bnd r k) rel' Q') (f0 : Frm w0 w) (hk : ∀ a e b w1, Mt C (q :: π) e σ w1 → Frm w w1 → rel w1 a b → Post C W π σ w0 (k a e) rel' Q' → Q b w1.H) : Post C W (q :: π) σ w r rel Q := by
  cases r with
  | none => exact h
  | some x =>
    cases x with
    | ok a e => exact fun b w' m f z => hk a e b w' m f z h
    | ex c e => exact fun w' A hA m f => h w' A hA m.unpin (f0.trans f)
theorem PostS.bndP {w0 : WS} {r : Option (Out α)} {k : α → Env → Option SO} {D : Ends} (h : PostS C W π w0 (VL.bndS r k) D) (f0 : Frm w0 w) (hk : ∀ a e b w1, Mt C (q :: π) e σ w1 → Frm w w1 → rel w1 a b → PostS C W π w0 (k a e) D → Q b w1.H) : Post C W (q :: π) σ w r rel Q := by
  cases r with
  | none => exact h.elim
  | some x =>
    cases x with
    | ok a e => exact fun b w' m f z => hk a e b w' m f z h
    | ex c e => exact fun w' A hA m f => h σ w' A hA m.unpin (f0.trans f)
end
section
variable {C : Cc} {π : List (Nat × V)} {e : Env} {σ : St} {w w0 : WS} {i : Nat} {t s s' : Tr} {v0 u : V} {as bs bs' : List Addr} {js : List Nat} {p : Addr} {o : HO}
/-- a thing that is hidden is given back to its slot, changed at one place -/
theorem core_put (m : Mt C ((i, v0) :: π) e σ w) (f : Frm w0 w) (tk : TOk C w.G w.H t v0 as) (hid : Hid w as) (so : ∀ a ∈ as, w0.H a = none ∨ ∃ k, w0.fp k a) (hs : t.sub js = some s) (hw : Walk w.H v0 js u)
    (hb : ∀ bs, TOk C w.G w.H s u bs → bs.Nodup → (∀ a ∈ bs, a ∈ as) → ∃ bs', p ∈ bs ∧ TOk C w.G (upd w.H p o) s' u bs' ∧ bs'.Nodup ∧ ∀ a ∈ bs', a ∈ bs ∨ ((w0.H a = none ∨ ∃ j, w0.fp j a) ∧ (∀ j, ¬ w.fp j a) ∧ a ∉ as)) (hNT : NTz o := by exact fun _ h => by cases h) :
    ∃ t' w', t.put js s' = some t' ∧ Mt C π (e.set i (some (.tr t'))) σ w' ∧ Frm w0 w' ∧ w'.H = upd w.H p o := by
  obtain ⟨u', a1, bs, a2, ea, hw', hts, put⟩ := TOk.subv js tk hs
  have eu := Walk.fn hw hw'
  subst eu
  have nd := hid.nd
  rw [ea] at nd
  obtain ⟨bs', hp, tk', nd', mem'⟩ := hb bs hts (List.nodup_append.mp (List.nodup_append.mp nd).1).2.1 fun a ha => by rw [ea]; exact List.mem_append_left _ (List.mem_append_right _ ha)
  have pa1 : ∀ a ∈ a1 ++ a2, a ≠ p := fun a ha z => by
    subst z
    obtain ⟨n1, n2, n3⟩ := List.nodup_append.mp nd
    obtain ⟨k1, k2, k3⟩ := List.nodup_append.mp n1
    rcases List.mem_append.mp ha with ha | ha
    · exact k3 a ha a hp rfl
    · exact n3 a (List.mem_append_right _ hp) a ha rfl
  obtain ⟨t', e1, tkf⟩ := put s' bs' (upd w.H p o) tk' fun a ha => upd_ne (pa1 a ha)
  have hv := m.pin (i, v0) List.mem_cons_self
  obtain ⟨m1, f1⟩ := m.unpin.give (w0 := w0) f hv (b := .tr t) (fun fp hfp => ⟨as, tk, hid.nd, hfp⟩) hid so
  have hlt : i < e.length := by rw [m.len]; exact (List.getElem?_eq_some_iff.mp hv).1
  have pas : p ∈ as := by rw [ea]; exact List.mem_append_left _ (List.mem_append_right _ hp)
  obtain ⟨op, hop⟩ := hid.h p pas
  obtain ⟨m2, f2⟩ := m1.trmut (w0 := w0) (t' := t') (as := a1 ++ bs' ++ a2) (H' := upd w.H p o) (hT := updT hNT) f1 (at_set_lt hlt) hv tkf (by
      obtain ⟨n1, n2, n3⟩ := List.nodup_append.mp nd
      obtain ⟨k1, k2, k3⟩ := List.nodup_append.mp n1
      have d1 : ∀ a ∈ a1 ++ a2, a ∉ bs' := fun a ha hb' => by
        rcases mem' a hb' with z | ⟨_, _, z⟩
        · rcases List.mem_append.mp ha with ha | ha
          · exact k3 a ha a z rfl
          · exact n3 a (List.mem_append_right _ z) a ha rfl
        · exact z (by
            rw [ea]
            rcases List.mem_append.mp ha with ha | ha
            · exact List.mem_append_left _ (List.mem_append_left _ ha)
            · exact List.mem_append_right _ ha)
      refine List.nodup_append.mpr ⟨List.nodup_append.mpr ⟨k1, nd', fun a ha b hb z => ?_⟩, n2, fun a ha b hb z => ?_⟩
      · subst z
        exact d1 a (List.mem_append_left _ ha) hb
      · subst z
        rcases List.mem_append.mp ha with ha | ha
        · exact n3 a (List.mem_append_left _ ha) a hb rfl
        · exact d1 a (List.mem_append_right _ hb) ha) (fun a => by
      by_cases z : a = p
      · exact .inr (.inl (by
          show (if i = i then a ∈ as else w.fp i a)
          rw [if_pos rfl, z]
          exact pas))
      · exact .inl (upd_ne z)) (fun a ha => by
      have inas : a ∈ as → (if i = i then a ∈ as else w.fp i a) := fun z => by rw [if_pos rfl]; exact z
      rcases List.mem_append.mp ha with ha | ha
      · rcases List.mem_append.mp ha with ha | ha
        · exact .inl (inas (by rw [ea]; exact List.mem_append_left _ (List.mem_append_left _ ha)))
        · rcases mem' a ha with z | ⟨z1, z2, z3⟩
          · exact .inl (inas (by rw [ea]; exact List.mem_append_left _ (List.mem_append_right _ z)))
          · refine .inr ⟨z1, fun j z => ?_⟩
            have z : (if j = i then a ∈ as else w.fp j a) := z
            by_cases hj : j = i
            · rw [if_pos hj] at z; exact z3 z
            · rw [if_neg hj] at z; exact z2 j z
      · exact .inl (inas (by rw [ea]; exact List.mem_append_right _ ha))) (fun a ha => by
      by_cases z : a = p
      · rw [z, upd_same] at ha; cases ha
      · rwa [upd_ne z] at ha) (fun a o' ho hn => upd_ne fun z => by
      rcases so p pas with r | ⟨k, r⟩
      · rw [z, r] at ho; cases ho
      · exact hn k (z ▸ r))
  exact ⟨t', _, e1, by rw [List.set_set] at m2; exact m2, f2, rfl⟩
end
section
variable {X : Cx} {ρ : Nat → Res} {W : WX} {pn : List Nat} {a b : Expr} {fa fb : FE} {pos : Pos} {i : Nat} {pm : PM}
def VPl (X : Cx) (ρ : Nat → Res) (W : WX) (i : Nat) (a : Expr) (pm : PM) : Prop := ∃ tp, PE X a tp ∧ SP (cc X ρ) W i tp pm
theorem vpl_n {y : Str} {py : Pos} (i : Nat) (hN : X.N[i]? = some y := by rfl) (hv : Vis X.env.scope y := by first | exact Or.inl rfl | exact Or.inr (Or.inl rfl) | exact Or.inr (Or.inr rfl)) (hd : (y == ("__debug__" : Str)) = false := by decide) (hcd : (y == ("__classdict__" : Str)) = false := by decide) :
    VPl X ρ W i (.Name y py) pmN := ⟨_, pe_var hN hv hd hcd, sp_n⟩
theorem vpl_ix (ha : VPl X ρ W i a pm) (hb : VE X ρ W b fb) (hs : PlainIx b := by exact fun _ _ => rfl) : VPl X ρ W i (.Subscript a b pos) (pmIx pm fb) := by
  obtain ⟨t, p, s⟩ := ha
  obtain ⟨t2, p2, s2⟩ := hb
  exact ⟨_, pe_ix ix_seq p p2 hs, sp_ix s s2⟩
end
end VL
set_option maxRecDepth 100000
namespace VL
open PySem L2
theorem TAll.setv {C : Cc} {G H : Hp} : ∀ {ts : List Tr} {xs : List V} {as : List Addr} {j : Nat}, TAll C G H ts xs as → j < ts.length → ∃ as1 as2, (as1 ++ as2).Sublist as ∧ ∀ {t' : Tr} {v : V} {bs : List Addr} {H' : Hp}, TOk C G H' t' v bs → (∀ a ∈ as1 ++ as2, H' a = H a) → TAll C G H' (ts.set j t') (xs.set j v) (as1 ++ bs ++ as2)
  | _, _, _, j, .nil, h => by simp at h
  | _, _, _, 0, .cons (as := as) (bs := bs) h1 h2, _ => ⟨[], bs, by simp, fun {t' v ds H'} h3 hk => by
    rw [List.set_cons_zero, List.set_cons_zero, List.nil_append]
    exact .cons h3 (h2.mono (Same.refl _) fun a ha => ⟨hk a (by simpa using ha), rfl⟩)⟩
  | _, _, _, j + 1, .cons (as := as) (bs := bs) h1 h2, h => by
    obtain ⟨a1, a2, g1, g2⟩ := TAll.setv (j := j) h2 (by simpa using h)
    refine ⟨as ++ a1, a2, by rw [List.append_assoc]; exact (List.Sublist.refl as).append g1, fun {t' v ds H'} h3 hk => ?_⟩
    have h5 := g2 h3 fun a ha => hk a (by
      rcases List.mem_append.mp ha with ha | ha
      · exact List.mem_append_left _ (List.mem_append_right _ ha)
      · exact List.mem_append_right _ ha)
    have h6 := TAll.cons (h1.mono (H' := H') (Same.refl _) fun a ha => ⟨hk a (List.mem_append_left _ (List.mem_append_left _ ha)), rfl⟩) h5
    rw [List.set_cons_succ, List.set_cons_succ]
    simpa using h6
end VL
set_option maxRecDepth 100000
namespace VL
open PySem L2
end VL
set_option maxRecDepth 100000
namespace VL
open PySem L2 PySem.Spec PyProof.Rows
end VL
set_option maxRecDepth 100000
namespace VL
open PySem L2
end VL
set_option maxRecDepth 100000
namespace VL
open PySem L2
end VL
set_option maxRecDepth 100000
namespace VL
open PySem L2 PySem.Spec PyProof.Rows
end VL
set_option maxRecDepth 100000
namespace VL
open PySem L2
end VL
set_option maxRecDepth 100000
namespace VL
open PySem L2
section
variable {C : Cc} {W : WX} {pn : List Nat} {tt : TT} {te : TE} {ft : FT} {fe : FE} {i j h : Nat}
theorem Mt.swap {C : Cc} {π : List (Nat × V)} {a b : Nat × V} {e : Env} {σ : St} {w : WS} (m : Mt C (a :: b :: π) e σ w) : Mt C (b :: a :: π) e σ w := ⟨m.len, m.sub, m.tg, m.bok, m.non, m.dis, fun q hq => m.pin q (by
  rcases List.mem_cons.mp hq with rfl | hq
  · exact List.mem_cons_of_mem _ List.mem_cons_self
  · rcases List.mem_cons.mp hq with rfl | hq
    · exact List.mem_cons_self
    · exact List.mem_cons_of_mem _ (List.mem_cons_of_mem _ hq))⟩
end
end VL
set_option maxRecDepth 100000
namespace VL
open PySem L2
/-- PLACE[x] op= v -/
def sAugP (i : Nat) (pm : PM) (op : PyData → PyData → Option B) (fx fv : FE) : FS := fun e => match (at? e i).bind trOf with
  | none => none
  | some t => bndS (pm t (e.set i none)) fun js e1 => match t.sub js with
    | some (.nd .lst ts) => bndS (fx e1) fun o2 e2 => match res e2 o2 with
      | some (.int k) => (ixN ts.length k).bind fun j => match ts[j]? with
        | some (.fr old) => bndS (fv e2) fun o3 e3 => (res e3 o3).bind fun d => match op old d with
          | some (.fr z) => (t.put js (.nd .lst (ts.set j (.fr z)))).bind fun t' => some (.nx (e3.set i (some (.tr t'))))
          | _ => none
        | _ => none
      | _ => none
    | _ => none
section
variable {C : Cc} {W : WX} {pn : List Nat} {i : Nat} {pm : PM} {tp ti te : TE} {fx f : FE} {g : PyData → PyData → Option B} {r : TIp}
theorem ss_augP (h2 : ∀ G H x y dx dy z Q, Rq C.K G H x dx → Rq C.K G H y dy → g dx dy = some z → (∀ v d', z = .fr d' → Rp C.K G v d' → Q v H) → r x y H Q) (sp : SP C W i tp pm) (sx : SE C W ti fx) (sv : SE C W te f) :
    SS C W pn (tAugS tp ti te (rIxL C.K) r rSetL) (sAugP i pm g fx f) := fun π e σ w D hpi m h1 => by
  unfold sAugP at h1
  split at h1
  case h_1 => exact h1.elim
  rename_i tr qt
  obtain ⟨bb, qb, qtr⟩ := Option.bind_eq_some_iff.mp qt
  obtain ⟨v0, w3, as, hv, m3, f3, eH3, eG3, tk, hid, has, hl⟩ := m.take qb qtr
  have so : ∀ a ∈ as, w.H a = none ∨ ∃ k, w.fp k a := fun a ha => .inr ⟨i, (has a).mp ha⟩
  rw [← eH3]
  refine sp _ _ σ w3 _ tr v0 as (m3.pin1 hv) tk hid (h1.bndP f3 fun js e4 u w4 m4 f4 k4 h4 => ?_)
  obtain ⟨hw4, _⟩ := k4
  obtain ⟨hid4, ag4⟩ := hid.step f4
  have tk4 : TOk C w4.G w4.H tr v0 as := tk.mono f4.g ag4
  split at h4
  case h_2 => exact h4.elim
  rename_i ts hsub
  refine sx _ _ σ w4 _ m4 (h4.bndP (f3.trans f4) fun o5 e5 y w5 m5 f5 k5 h5 => ?_)
  obtain ⟨hid5, ag5⟩ := hid4.step f5
  have tk5 : TOk C w5.G w5.H tr v0 as := tk4.mono f5.g ag5
  split at h5
  case h_2 => exact h5.elim
  rename_i k hres
  cases qj : ixN ts.length k with
  | none => rw [qj] at h5; exact h5.elim
  | some j =>
    rw [qj, Option.bind_some] at h5
    split at h5
    case h_2 => exact h5.elim
    rename_i old qo
    have hw5 : Walk w5.H v0 js u := walk_keep tk4 hsub (fun a ha => (ag5 a ha).1) hw4
    obtain ⟨u', a1', bs2, a2', ea2', hwu, hts2, put2⟩ := TOk.subv js tk5 hsub
    clear put2
    have eu := Walk.fn hw5 hwu
    subst eu
    cases hts2 with
    | lst n1 n2 n3 =>
    rename_i p xs cs
    have rk := res_sound m5 k5 hres
    cases rk
    have hjl : j < ts.length := ixN_lt qj
    obtain ⟨vo, c1, bs3, c2, x1, x2, x3, x4⟩ := TAll.sub1 n3 qo
    clear x4
    cases x3 with
    | fr ro =>
    have hat : L2.atI xs k = some vo := by
      unfold L2.atI
      rw [n3.length, qj]
      exact x1
    refine ⟨p, xs, k, vo, rfl, rfl, .of n2, hat, ?_⟩
    refine sv _ _ σ w5 _ m5 (h5.bndP (f3.trans (f4.trans f5)) fun o6 e6 y6 w6 m6 f6 k6 h6 => ?_)
    obtain ⟨hid6, ag6⟩ := hid5.step f6
    have tk6 : TOk C w6.G w6.H tr v0 as := tk5.mono f6.g ag6
    cases q6 : res e6 o6 with
    | none => rw [q6] at h6; exact h6.elim
    | some d =>
    rw [q6, Option.bind_some] at h6
    split at h6
    case h_2 => exact h6.elim
    rename_i z q7
    refine h2 w6.G w6.H vo y6 old d _ _ ((ro.mono f6.g).rq m6.sub) (res_sound m6 k6 q6) q7 fun v d' ez rv => ?_
    cases ez
    have hw6 : Walk w6.H v0 js (.ref p) := walk_keep tk5 hsub (fun a ha => (ag6 a ha).1) hw5
    have pas : p ∈ as := by rw [ea2']; exact List.mem_append_left _ (List.mem_append_right _ List.mem_cons_self)
    have hp6 : w6.H p = some (.lst xs) := (ag6 p pas).1.trans n2
    obtain ⟨t', w7, e7, m7, f7, eH7⟩ := core_put (w0 := w) (p := p) (o := .lst (xs.set j v)) (s' := .nd .lst (ts.set j (.fr z))) m6 (f3.trans (f4.trans (f5.trans f6))) tk6 hid6 so hsub hw6 fun bs hts nd sub => by
      cases hts with
      | lst z1 z2 z3 =>
      rename_i xs' cs'
      have exs : xs' = xs := by rw [hp6] at z2; cases z2; rfl
      subst exs
      obtain ⟨d1, d2, hsl, hset⟩ := z3.setv hjl
      have np := (List.nodup_cons.mp nd).1
      have ncs := (List.nodup_cons.mp nd).2
      have d12 : ∀ a ∈ d1 ++ d2, a ≠ p := fun a ha z => np (by rw [← z]; exact hsl.subset ha)
      refine ⟨p :: (d1 ++ [] ++ d2), List.mem_cons_self, .lst z1 upd_same (hset (.fr rv) fun a ha => upd_ne (d12 a ha)), ?_, fun a ha => .inl ?_⟩
      · rw [List.append_nil]
        exact List.nodup_cons.mpr ⟨fun z => d12 p z rfl, ncs.sublist hsl⟩
      · rw [List.append_nil] at ha
        rcases List.mem_cons.mp ha with rfl | ha
        · exact List.mem_cons_self
        · exact List.mem_cons_of_mem _ (hsl.subset ha)
    rw [e7, Option.bind_some] at h6
    refine ⟨p, xs, k, j, rfl, rfl, hp6, by rw [n3.length]; exact qj, ?_⟩
    rw [← eH7]
    exact h6 σ w7 m7 f7
end
theorem vs_augP {X : Cx} {ρ : Nat → Res} {W : WX} {pn : List Nat} {a b c : Expr} {fx f : FE} {pos ps : Pos} {i : Nat} {pm : PM} {op : Operator} {g : PyData → PyData → Option B} (ho : IpV X op g) (hpl : VPl X ρ W i c pm) (hx : VE X ρ W b fx) (hv : VE X ρ W a f)
    (ha : ∀ ov iv new, augStore b ov iv new = (do holding [new, ov, iv] (setItem ov iv new); release [new, ov, iv] []; pure .next) := by intros; rfl) :
    VS X ρ W pn (.AugAssign (.Subscript c b ps) op a pos) (sAugP i pm g fx f) := by
  obtain ⟨r, h1, h2⟩ := ho
  obtain ⟨t, p, s⟩ := hx
  obtain ⟨t2, p2, s2⟩ := hv
  obtain ⟨t3, p3, s3⟩ := hpl
  exact ⟨_, ps_augS p3 p get_list p2 h1 set_list ha, ss_augP (C := cc X ρ) h2 s3 s s2⟩
def isKT : PyData → Bool
  | .tuple ds => ds.all isK
  | _ => false
def keqL : List PyData → List PyData → Bool
  | [], [] => true
  | a :: as, b :: bs => keq a b && keqL as bs
  | _, _ => false
def keqT : PyData → PyData → Bool
  | .tuple as, .tuple bs => keqL as bs
  | _, _ => false
def keyT : PyData → List Key
  | .tuple ds => ds.map keyD
  | _ => []
def kPT (k : List Key) : PyData := .tuple (k.map kP)
theorem kPT_keyT {d : PyData} (h : isKT d = true) : kPT (keyT d) = d := by
  cases d with
  | tuple ds =>
    have h' := List.all_eq_true.mp (show ds.all isK = true from h)
    show PyData.tuple ((ds.map keyD).map kP) = _
    congr 1
    rw [List.map_map]
    refine (List.map_congr_left fun x hx => ?_).trans (List.map_id _)
    exact kP_keyD (h' x hx)
  | _ => cases h
theorem keqL_kP : ∀ a b : List Key, keqL (a.map kP) (b.map kP) = decide (a = b)
  | [], [] => rfl
  | [], _ :: _ => rfl
  | _ :: _, [] => rfl
  | a :: as, b :: bs => by
    show (keq (kP a) (kP b) && keqL (as.map kP) (bs.map kP)) = _
    rw [keq_kP, keqL_kP, ← Bool.decide_and]
    exact decide_eq_decide.mpr (by simp)
theorem keqT_kP (a b : List Key) : keqT (kPT a) (kPT b) = decide (a = b) := keqL_kP a b
theorem kvs_rp {K : PySem.W.Frag} {G : Hp} : ∀ {xs : List V} {ds : List PyData}, RpAll K G xs ds → ds.all isK = true → xs = (ds.map keyD).map kV
  | _, _, .nil, _ => rfl
  | _, _, .cons (d := d) r t, h => by
    rw [List.all_cons, Bool.and_eq_true] at h
    rw [kvs_rp t h.2, List.map_cons, List.map_cons]
    congr 1
    have h1 := h.1
    cases d <;> first | (cases r; rfl) | cases h1
theorem kT_rq {K : PySem.W.Frag} {G H : Hp} {v : V} {d : PyData} (s : Same G H) (r : Rq K G H v d) (h : isKT d = true) : ∃ b, v = .ref b ∧ H b = some (.tup ((keyT d).map kV)) := by
  cases d with
  | tuple ds =>
    obtain ⟨a, xs, rfl, g, ra⟩ := r
    exact ⟨a, rfl, by rw [s a _ g, kvs_rp ra h]; rfl⟩
  | _ => cases h
def lookDT (ds : DKv) (k : PyData) : Option PyData := (ds.find? fun p => keqT p.1 k).map (·.2)
def putDT (ds : DKv) (k v : PyData) : DKv := if (ds.any fun p => keqT p.1 k) = true then ds.map (fun p => if keqT p.1 k = true then (p.1, v) else p) else ds ++ [(k, v)]
inductive RpDT (K : PySem.W.Frag) (G : Hp) : List (List Key × V) → DKv → Prop
  | nil : RpDT K G [] []
  | cons {k : List Key} {v : V} {d : PyData} {ks : List (List Key × V)} {ds : DKv} : Rp K G v d → RpDT K G ks ds → RpDT K G ((k, v) :: ks) ((kPT k, d) :: ds)
section
variable {K : PySem.W.Frag} {G : Hp}
theorem RpDT.length : ∀ {ks : List (List Key × V)} {ds : DKv}, RpDT K G ks ds → ks.length = ds.length
  | _, _, .nil => rfl
  | _, _, .cons _ t => by rw [List.length_cons, List.length_cons, t.length]
theorem RpDT.mono {G' : Hp} (e : Same G G') : ∀ {ks : List (List Key × V)} {ds : DKv}, RpDT K G ks ds → RpDT K G' ks ds
  | _, _, .nil => .nil
  | _, _, .cons r t => .cons (r.mono e) (t.mono e)
theorem RpDT.append : ∀ {ks ls : List (List Key × V)} {ds es : DKv}, RpDT K G ks ds → RpDT K G ls es → RpDT K G (ks ++ ls) (ds ++ es)
  | _, _, _, _, .nil, t => t
  | _, _, _, _, .cons r t, u => .cons r (t.append u)
theorem RpDT.look : ∀ {ks : List (List Key × V)} {ds : DKv}, RpDT K G ks ds → ∀ k : List Key, (valV ks k = none ∧ lookDT ds (kPT k) = none) ∨ ∃ v d, valV ks k = some v ∧ lookDT ds (kPT k) = some d ∧ Rp K G v d
  | _, _, .nil, k => .inl ⟨rfl, rfl⟩
  | _, _, .cons (k := a) (v := v) (d := d) (ks := ks) (ds := ds) r t, k => by
    have h1 : lookDT ((kPT a, d) :: ds) (kPT k) = if a = k then some d else lookDT ds (kPT k) := by
      unfold lookDT
      rw [List.find?_cons, keqT_kP]
      by_cases e : a = k
      · rw [decide_eq_true e, if_pos e]; rfl
      · rw [decide_eq_false e, if_neg e]
    by_cases e : a = k
    · rw [if_pos e] at h1
      exact .inr ⟨v, d, valV_pos e, h1, r⟩
    · rw [if_neg e] at h1
      rw [h1, valV_neg e]
      exact t.look k
theorem RpDT.any : ∀ {ks : List (List Key × V)} {ds : DKv}, RpDT K G ks ds → ∀ k : List Key, (ks.any fun p => decide (p.1 = k)) = ds.any fun p => keqT p.1 (kPT k)
  | _, _, .nil, k => rfl
  | _, _, .cons (k := a) r t, k => by rw [List.any_cons, List.any_cons, keqT_kP, t.any k]
theorem RpDT.over {v : V} {d : PyData} (k : List Key) (r : Rp K G v d) : ∀ {ks : List (List Key × V)} {ds : DKv}, RpDT K G ks ds → RpDT K G (ks.map (fun kv => if kv.1 = k then (kv.1, v) else kv)) (ds.map fun p => if keqT p.1 (kPT k) = true then (p.1, d) else p)
  | _, _, .nil => .nil
  | _, _, .cons (k := a) r1 t => by
    rw [List.map_cons, List.map_cons, keqT_kP]
    by_cases q : a = k
    · rw [if_pos q, if_pos (decide_eq_true q)]
      exact .cons r (RpDT.over k r t)
    · rw [if_neg q, if_neg (by rw [decide_eq_false q]; decide)]
      exact .cons r1 (RpDT.over k r t)
theorem RpDT.put {ks : List (List Key × V)} {ds : DKv} {v : V} {d : PyData} (h : RpDT K G ks ds) (k : List Key) (r : Rp K G v d) : RpDT K G (putK ks k v) (putDT ds (kPT k) d) := by
  unfold putK putDT
  rw [h.any k]
  split
  · exact h.over k r
  · exact h.append (.cons r .nil)
end
/-- a dict with tuples as keys, at an address of its own -/
def DTR : Res where
  rep := fun K G H v d fp => ∃ p ks ds, v = .ref p ∧ G p = none ∧ H p = some (.dT ks) ∧ d = .dict ds ∧ RpDT K G ks ds ∧ ∀ a, fp a ↔ a = p
  frame := by
    rintro K G H G' H' v d fp ⟨p, ks, ds, e0, h1, h2, h3, h4, h5⟩ s k
    have q := k p ((h5 p).mpr rfl)
    exact ⟨p, ks, ds, e0, q.2.trans h1, q.1.trans h2, h3, h4.mono s, h5⟩
  own := by
    rintro K G H v d fp ⟨p, ks, ds, e0, h1, h2, _, _, h5⟩ a ha
    obtain rfl := (h5 a).mp ha
    exact ⟨h1, _, h2⟩
def fTNew : FE := fun e => some (.ok (.b (.rs 2 (.dict []))) e)
def sTPut (i : Nat) (fx fv : FE) : FS := fun e => bndS (fv e) fun o e1 => (fz e1 o).bind fun p => match at? p.2 i with
  | some (.rs 2 _) => bndS (fx p.2) fun o2 e2 => match at? e2 i with
    | some (.rs 2 (.dict ds)) => (res e2 o2).bind fun k => if isKT k = true ∧ ds.length < big then some (.nx (e2.set i (some (.rs 2 (.dict (putDT ds k p.1)))))) else none
    | _ => none
  | _ => none
section
variable {X : Cx} {ρ : Nat → Res} {W : WX} {pn : List Nat} {a b : Expr} {pos p2 ps apos cpos : Pos} {fx fv fk : FE}
theorem dtr_of {C : Cc} (hρ : C.rho 2 = DTR) {π : List (Nat × V)} {e : Env} {σ : St} {w : WS} {i : Nat} {d : PyData} (m : Mt C π e σ w) (h : at? e i = some (.rs 2 d)) :
    ∃ p ks ds, σ[i]? = some (some (.ref p)) ∧ w.G p = none ∧ w.H p = some (.dT ks) ∧ d = .dict ds ∧ RpDT C.K w.G ks ds ∧ ∀ a, w.fp i a ↔ a = p := by
  obtain ⟨v, h1, h2⟩ := m.bok i _ h
  have h3 : DTR.rep C.K w.G w.H v d (w.fp i) := by
    have : (C.rho 2).rep C.K w.G w.H v d (w.fp i) := h2
    rwa [hρ] at this
  obtain ⟨p, ks, ds, rfl, g1, g2, g3, g4, g5⟩ := h3
  exact ⟨p, ks, ds, h1, g1, g2, g3, g4, g5⟩
theorem ve_tnew (hρ : ρ 2 = DTR) : VE X ρ W (.Dict [] [] pos) fTNew := by
  refine ⟨_, pe_dnewT, fun π e σ w Q m h => fun q hq => ?_⟩
  have m2 := m.new (o := .dT []) hq
  have f2 := Frm.new (o := .dT []) hq
  refine h (.ref q) (w.new q (.dT [])) m2 f2 ⟨fun a => a = q, ?_, fun a ha => ?_⟩
  · show (ρ 2).rep X.K w.G (upd w.H q (.dT [])) (.ref q) (.dict []) _
    rw [hρ]
    exact ⟨q, [], [], rfl, m.sub.free hq, upd_same, rfl, .nil, fun _ => Iff.rfl⟩
  · subst ha
    exact ⟨.inl hq, m.notOwned hq⟩
theorem vs_tput (hρ : ρ 2 = DTR) {y : Str} {py : Pos} (hu : X.A.units + 1 < cLine) (i : Nat) (hx : VE X ρ W b fx) (hv : VE X ρ W a fv) (hN : X.N[i]? = some y := by rfl) (hvs : Vis X.env.scope y := by first | exact Or.inl rfl | exact Or.inr (Or.inl rfl) | exact Or.inr (Or.inr rfl)) (hd : (y == ("__debug__" : Str)) = false := by decide)
    (hcd : (y == ("__classdict__" : Str)) = false := by decide) (hs : swapsWith a (some (.Subscript (.Name y py) b ps)) pos.line X.env = pure false := by rfl) : VS X ρ W pn (.Assign [.Subscript (.Name y py) b ps] a pos) (sTPut i fx fv) := by
  obtain ⟨t, p, s⟩ := hx
  obtain ⟨t2, p2, s2⟩ := hv
  refine ⟨_, ps_dput hu (pe_var hN hvs hd hcd) p p2 hs, fun π e σ w D hpi m h => ?_⟩
  refine s2 π e σ w _ m (h.bnd fun o1 e1 v1 w1 m1 f1 k1 h1 => ?_)
  cases qz : fz e1 o1 with
  | none => rw [qz] at h1; exact h1.elim
  | some pr =>
  rw [qz, Option.bind_some] at h1
  obtain ⟨w2, m2, f2, eH2, rv⟩ := fz_sound (e' := pr.2) m1 f1 k1 qz
  rw [← eH2]
  split at h1
  case h_2 => exact h1.elim
  rename_i d0 q0
  obtain ⟨p0, ks0, ds0, h0, _⟩ := dtr_of (C := cc X ρ) hρ m2 q0
  refine ⟨.ref p0, h0, s π _ σ w2 _ m2 ((h1.from f2).bnd fun o3 e3 v3 w3 m3 f3 k3 h3 => ?_)⟩
  split at h3
  case h_2 => exact h3.elim
  rename_i ds q1
  obtain ⟨p', ks, ds', h4, g1, g2, g3, g4, g5⟩ := dtr_of (C := cc X ρ) hρ m3 q1
  rw [h0] at h4
  cases h4
  cases g3
  cases q2 : res e3 o3 with
  | none => rw [q2] at h3; exact h3.elim
  | some d2 =>
    rw [q2, Option.bind_some] at h3
    split at h3
    case isFalse => exact h3.elim
    rename_i hk
    obtain ⟨b, e4, hb⟩ := kT_rq m3.sub (res_sound m3 k3 q2) hk.1
    subst e4
    have gp := g4.put (keyT d2) (rv.mono f3.g)
    rw [kPT_keyT hk.1] at gp
    refine ⟨p0, upd w3.H p0 (.dT (putK ks (keyT d2) v1)), rfl, DPut.t g2 hb (by rw [g4.length]; exact Nat.lt_of_lt_of_le hk.2 big_le), ?_⟩
    refine (h3.from f3) σ { w3 with H := upd w3.H p0 (.dT (putK ks (keyT d2) v1)) } ⟨by rw [List.length_set]; exact m3.len, fun a o q => ?_, m3.tg.put (fun _ h => by cases h), fun j b q => ?_, fun j q a z => ?_, m3.dis, m3.pin⟩ ⟨Same.refl _, fun a o q n => ⟨?_, rfl, n⟩, fun a q => ?_⟩
    · show upd w3.H p0 _ a = some o
      rw [upd_ne (ne_of_none q g1)]
      exact m3.sub a o q
    · by_cases hj : i = j
      · subst hj
        rw [at_set_same q1] at q
        cases q
        refine ⟨.ref p0, h0, ?_⟩
        show (ρ 2).rep X.K w3.G (upd w3.H p0 _) (.ref p0) _ (w3.fp i)
        rw [hρ]
        exact ⟨p0, _, _, rfl, g1, upd_same, rfl, gp, g5⟩
      · rw [at_set_ne hj] at q
        obtain ⟨u, k1, k2⟩ := m3.bok j b q
        refine ⟨u, k1, k2.mono (Same.refl _) fun a ha => ⟨upd_ne fun z => ?_, rfl⟩⟩
        subst z
        exact hj (m3.dis i j a ((g5 a).mpr rfl) ha)
    · by_cases hj : i = j
      · subst hj
        rw [at_set_same q1] at q
        cases q
      · rw [at_set_ne hj] at q
        exact m3.non j q a z
    · show upd w3.H p0 _ a = some o
      rw [upd_ne fun z => n i (by rw [z]; exact (g5 p0).mpr rfl)]
      exact q
    · by_cases z : a = p0
      · rw [z] at q
        have : upd w3.H p0 _ p0 = none := q
        rw [upd_same] at this
        cases this
      · have : upd w3.H p0 _ a = none := q
        rwa [upd_ne z] at this
end
end VL
set_option maxRecDepth 100000
namespace VL
open PySem L2 PySem.Spec PyProof.Rows
end VL
set_option maxRecDepth 100000
namespace VL
open PySem L2 PySem.Spec PyProof.Rows PySem.Calls
/-- the values of the locked dict at d, whose keys are tuples -/
def ItdT (d : Addr) (o : Obj) (kvs : List (List Key × V)) : It :=
  ⟨fun i H => H d = some (.frz o (.dT kvs)) ∧ i < kvs.length, fun i H x H' => H' = H ∧ ∃ k, kvs[i]? = some (k, x), fun i H => H d = some (.frz o (.dT kvs)) ∧ kvs.length ≤ i⟩
section
variable {X : Cx} {pins : List (Addr × Obj)} {σ : L2.St} {H : Hp} {s : Shared} {d : Addr} {o : Obj}
theorem frzT_vals {kvs : List (List Key × V)} (I : Inv X pins σ H s) (h : H d = some (.frz o (.dT kvs))) :
    (d == sysModules) = false ∧ s.heap.get? d = some o ∧ o.ExactDict ∧ ∃ (es : Array DictEntry) (ep : Nat), o.data = .dict es ep ∧ es.size = kvs.length ∧
      ∀ (i : Nat) (k : List Key) (v : V), kvs[i]? = some (k, v) → ∃ en : DictEntry, es[i]? = some en ∧ RelV v en.val := by
  obtain ⟨hd, z, hs, xs, pr, o', es, ep, ho, hx, hdt, he, _⟩ := I.hok d _ h
  rw [hd] at ho
  cases ho
  refine ⟨hs, hd, hx, es, ep, hdt, ?_, fun i k v e => ?_⟩
  · have l1 : es.size = xs.length := size_of_entries he
    have l2 : kvs.length = xs.length := Paired.length pr
    omega
  · obtain ⟨b, hb, e1, _, e3⟩ := paired_get pr e
    have q := entry_at he i
    rw [hb] at q
    exact ⟨_, q, e3⟩
end
section
variable {P : Program} {w : World} {K : PySem.W.Frag} {tg : Expr} {d : Addr} {o : Obj} {es : Array DictEntry} {ep : Nat}
theorem turn_valsT {kvs : List (List Key × V)} {es : Array DictEntry} {ep : Nat} (it : Addr) (hod : o.data = .dict es ep) : Turn P w K tg (ItdT d o kvs) [it] it (fun i h => h.IsValIter it d i es.size ep) where
  mem := by simp
  obj := fun i h st b hb => by
    have e : b = it := by simpa using hb
    subst e
    obtain ⟨oi, e, c, dd⟩ := st
    exact ⟨oi, e, fun v z => by rw [dd] at z; cases z⟩
  keep := fun i h h' st k => st.at fun oi e => k it (by simp) oi e
  item := by
    intro X hP hw hK hc i pins s σ H E I hf st hg
    subst hP hw hK
    obtain ⟨hd, hi⟩ := hg
    obtain ⟨f0, f1, f2, f3, f4, f5⟩ := hf it (by simp)
    obtain ⟨hs, hgd, hx, es', ep', hdt, hsz, ent⟩ := frzT_vals I hd
    obtain ⟨rfl, rfl⟩ := dict_ep hod hdt
    obtain ⟨⟨k, v⟩, hkv⟩ : ∃ p, kvs[i]? = some p := ⟨kvs[i], List.getElem?_eq_getElem hi⟩
    obtain ⟨en, hen, ru⟩ := ent i k v hkv
    have hie : i < es'.size := by omega
    rw [Array.getElem?_eq_getElem hie] at hen
    refine wpAny_pyNext_values_item_raw st ⟨o, hgd, hx, hdt⟩ hie fun h' st' sb => ?_
    have I1 : Inv X pins σ H { s with heap := h' } := I.turned (t' := s.toks) (fun b ob hb e => (sb.2 b hb).trans e) f0 f1 f3 f4 f5
    obtain ⟨oi, e, c, dd⟩ := id st'
    refine ⟨_, rfl, go_of (s := { s with heap := h' }) e c dd (by decide) ⟨v, H, I1, ?_, ⟨rfl, k, hkv⟩, st', fun b hb => (hf b hb).1⟩⟩
    rw [Option.some.inj hen]
    exact ru
  done := by
    intro X hP hw hK hc i pins s σ H E I hf st hg
    subst hP hw hK
    obtain ⟨hd, hi⟩ := hg
    obtain ⟨f0, f1, f2, f3, f4, f5⟩ := hf it (by simp)
    obtain ⟨hs, hgd, hx, es', ep', hdt, hsz, ent⟩ := frzT_vals I hd
    obtain ⟨rfl, rfl⟩ := dict_ep hod hdt
    exact wpAny_pyNext_values_end_raw (I.ok.hd hc) st ⟨o, hgd, hx, hdt⟩ (by omega) fun h' eb => ⟨rfl, I.turned (t' := s.toks) (fun b ob hb e => eb b ob hb e) f0 f1 f3 f4 f5⟩
  self := fun A i s Q E st h => wpAny_pyIter_valiter st h
end
def tValsT (td : TE) : TI := fun σ H R => td σ H fun x H1 => ∃ d o kvs, x = .ref d ∧ H1 d = some (.frz o (.dT kvs)) ∧ R (ItdT d o kvs) H1
section
variable {X : Cx} {tg e : Expr} {td : TE} {apos cpos : Pos}
theorem pi_valuesT (he : PE X e td) (hbase : attributeBase e "values" X.env (eval e X.env) = eval e X.env := by rfl) (hline : (apos.endLine == cpos.line) = true := by rfl) : PI X tg (.Call (.Attribute e "values" apos) [] [] cpos) (tValsT td) := by
  refine ⟨fun pins s σ H R I h => ?_⟩
  refine wpAny_Call_method (T := "dict") (id := "dict.values") hbase rfl hline F.plainAttrs_dict F.slot_dict_values F.type_dict_values (thn (he.run pins s σ H _ I h) fun u s1 ⟨x, H1, I1, rx, d, o, kvs, ex, hd, q⟩ => ?_)
  subst ex
  obtain rfl : u = Value.ref d := rx
  obtain ⟨hs, hgd, hx, es, ep, hdt, hsz, ent⟩ := frzT_vals I1 hd
  have hm : s1.heap.DictRaw d es ep := ⟨o, hgd, hx, hdt⟩
  refine ⟨hm.typeIs, fun b z => by cases z; exact ⟨o, hgd, hx.2.1⟩, ?_⟩
  have I2 : Inv X pins σ H1 { s1 with heap := s1.heap.push { cls := .type "dict_values", data := .fields #[.ref d] } } := I1.kept (t' := s1.toks) fun b ob q => Heap.get?_push_of_some _ q
  have fin : wpAny (model X.prog X.w) X.A (pyIter (.ref s1.heap.objs.size)) (PIE X pins σ tg R) X.xe { s1 with heap := s1.heap.push { cls := .type "dict_values", data := .fields #[.ref d] } } := by
    refine wpAny_pyIter_values_raw (d := d) ⟨_, Heap.get?_push_size _ rfl, rfl, rfl⟩ (hm.push _) (pi_one (tk := s1.toks) I2 _ (turn_valsT _ hdt) ⟨_, Heap.get?_push_size _ rfl, rfl, ?_⟩ q)
    rfl
  show wpAny _ _ (callWith cpos (.builtin "dict.values") [.ref d] [] []) _ X.xe s1
  exact method_meetsIn F.slot_dict_values F.entry_dict_values rfl (PySem.evalArgs_none ⟨rfl, hm.typeIs, F.args_dict_values_1 _, _, meets_dict_values_raw d hs, ⟨es, ep, hm⟩, fin⟩)
/-- locked, and not opened again -/
def tFrzE (t : TE) : TE := fun σ H Q => ∃ d u, H d = some u ∧ Mut (some u) ∧ ∀ od, t σ (upd H d (.frz od u)) Q
theorem pe_frzE {t : TE} (h : PE X e t) : PE X e (tFrzE t) := by
  refine ⟨fun pins s σ H Q I hw => ?_⟩
  obtain ⟨d, u, hd, mu, hw⟩ := hw
  obtain ⟨od, I1⟩ := I.lock hd mu
  exact h.run pins s σ _ Q I1 (hw od)
end
/-- a dict with tuples as keys that is written no more -/
def FZT : Res where
  rep := fun K G H v d fp => ∃ p od ks ds, v = .ref p ∧ G p = some (.frz od (.dT ks)) ∧ d = .dict ds ∧ RpDT K G ks ds ∧ ∀ a, ¬ fp a
  frame := by
    rintro K G H G' H' v d fp ⟨p, od, ks, ds, e0, h1, h2, h3, h4⟩ s k
    exact ⟨p, od, ks, ds, e0, s _ _ h1, h2, h3.mono s, h4⟩
  own := by
    rintro K G H v d fp ⟨p, od, ks, ds, e0, h1, h2, h3, h4⟩ a ha
    exact (h4 a ha).elim
def rhoU : Nat → Res := fun k => if k = 2 then DTR else if k = 3 then FZT else R0
def fFrzT (i : Nat) (f : FE) : FE := fun e => match at? e i with
  | some (.rs 2 d) => f (e.set i (some (.rs 3 d)))
  | _ => none
def iValsT (i : Nat) : FI := fun e => match at? e i with
  | some (.rs 3 (.dict ds)) => some (.ok (ds.map (·.2)) e)
  | _ => none
section
variable {C : Cc} {π : List (Nat × V)} {e : Env} {σ : L2.St} {w : WS} {p : Addr} {o o' : HO}
/-- the thing at p, owned by the name i, turned into another one that is frozen -/
def WS.frzX (w : WS) (i : Nat) (p : Addr) (o : HO) : WS := ⟨upd w.G p o, upd w.H p o, fun j a => w.fp j a ∧ j ≠ i⟩
theorem Mt.frzX {i : Nat} {b b' : B} {v : V} (m : Mt C π e σ w) (hb : at? e i = some b) (hv : σ[i]? = some (some v)) (hG : w.G p = none) (hf : ∀ a, w.fp i a ↔ a = p) (hb' : BOk C (upd w.G p o) (upd w.H p o) b' v fun _ => False) :
    Mt C π (e.set i (some b')) σ (w.frzX i p o) := by
  have sG : Same w.G (upd w.G p o) := fun a u q => by rw [upd_ne (ne_of_none q hG)]; exact q
  refine ⟨by rw [List.length_set]; exact m.len, fun a u q => ?_, fun a k q => ?_, fun j c q => ?_, fun j q a z => ?_, fun j k a h1 h2 => m.dis j k a h1.1 h2.1, m.pin⟩
  case refine_2 =>
    have q' : upd w.H p o a = some (.tup (k.map V.int)) := q
    show upd w.G p o a = _
    by_cases z : a = p
    · subst z
      rw [upd_same] at q' ⊢
      exact q'
    · rw [upd_ne z] at q' ⊢
      exact m.tg a k q'
  · have q' : upd w.G p o a = some u := q
    show upd w.H p o a = some u
    by_cases z : a = p
    · subst z
      rw [upd_same] at q' ⊢
      exact q'
    · rw [upd_ne z] at q' ⊢
      exact m.sub a u q'
  · by_cases hj : i = j
    · subst hj
      rw [at_set_same hb] at q
      cases q
      refine ⟨v, hv, ?_⟩
      have e1 : (w.frzX i p o).fp i = fun _ => False := by
        funext a
        exact propext ⟨fun z => z.2 rfl, fun z => z.elim⟩
      rw [e1]
      exact hb'
    · rw [at_set_ne hj] at q
      obtain ⟨u, h1, h2⟩ := m.bok j c q
      have e1 : (w.frzX i p o).fp j = w.fp j := by
        funext a
        exact propext ⟨fun z => z.1, fun z => ⟨z, fun q => hj q.symm⟩⟩
      rw [e1]
      have ne : ∀ a, w.fp j a → a ≠ p := fun a ha z => by
        subst z
        exact hj (m.dis i j a ((hf a).mpr rfl) ha)
      exact ⟨u, h1, h2.mono sG fun a ha => ⟨upd_ne (ne a ha), upd_ne (ne a ha)⟩⟩
  · by_cases hj : i = j
    · subst hj
      exact z.2 rfl
    · rw [at_set_ne hj] at q
      exact m.non j q a z.1
theorem Frm.frzX {i : Nat} (hG : w.G p = none) (hf : w.fp i p) : Frm w (w.frzX i p o) := by
  refine ⟨fun a u q => ?_, fun a u h n => ?_, fun a h => ?_⟩
  · show upd w.G p o a = some u
    rw [upd_ne (ne_of_none q hG)]
    exact q
  · have ne : a ≠ p := fun z => n i (by rw [z]; exact hf)
    exact ⟨by show upd w.H p o a = some u; rw [upd_ne ne]; exact h, by show upd w.G p o a = w.G a; rw [upd_ne ne], fun j z => n j z.1⟩
  · have h' : upd w.H p o a = none := h
    by_cases z : a = p
    · rw [z, upd_same] at h'
      cases h'
    · rwa [upd_ne z] at h'
end
section
variable {X : Cx} {ρ : Nat → Res} {W : WX} {a : Expr} {fa : FE}
theorem ve_frzT (h2 : ρ 2 = DTR) (h3 : ρ 3 = FZT) (i : Nat) (ha : VE X ρ W a fa) : VE X ρ W a (fFrzT i fa) := by
  obtain ⟨t, p, s⟩ := ha
  refine ⟨_, pe_frzE p, fun π e σ w Q m h => ?_⟩
  unfold fFrzT at h
  split at h
  case h_2 => exact h.elim
  rename_i d q
  obtain ⟨p, ks, ds, g0, g1, g2, rfl, g4, g5⟩ := dtr_of (C := cc X ρ) h2 m q
  refine ⟨p, .dT ks, g2, trivial, fun od => ?_⟩
  have sG : Same w.G (upd w.G p (.frz od (.dT ks))) := fun a u q => by rw [upd_ne (ne_of_none q g1)]; exact q
  have m1 : Mt (cc X ρ) π (e.set i (some (.rs 3 (.dict ds)))) σ (w.frzX i p (.frz od (.dT ks))) := m.frzX q g0 g1 g5 (by
    show (ρ 3).rep X.K _ _ _ _ _
    rw [h3]
    exact ⟨p, od, ks, ds, rfl, upd_same, rfl, g4.mono sG, fun a z => z⟩)
  exact s π _ σ (w.frzX i p (.frz od (.dT ks))) Q m1 (Post.reb (Frm.frzX g1 ((g5 p).mpr rfl)) h)
theorem it_valsT {C : Cc} {G : Hp} {p : Addr} {od : Obj} {ks : List (List Key × V)} {ds : DKv} (h : G p = some (.frz od (.dT ks))) (r : RpDT C.K G ks ds) : ItOk C G (ItdT p od ks) (ds.map (·.2)) := fun i π e σ w m s => by
  have hH : w.H p = some (.frz od (.dT ks)) := m.sub _ _ (s _ _ h)
  have hl := r.length
  rw [List.length_map]
  refine ⟨fun hi => ⟨hH, by omega⟩, fun hi => ⟨hH, by omega⟩, fun x H' y d hd => ?_⟩
  obtain ⟨rfl, k, hk⟩ := y
  refine ⟨w, m, .refl w, rfl, ?_⟩
  have go : ∀ {ks : List (List Key × V)} {ds : DKv}, RpDT C.K G ks ds → ∀ i : Nat, ks[i]? = some (k, x) → (ds.map (·.2))[i]? = some d → Rp C.K G x d := by
    intro ks ds r
    induction r with
    | nil => intro i h; simp at h
    | cons r0 t ih =>
      intro i h h'
      cases i with
      | zero =>
        simp at h h'
        obtain ⟨_, rfl⟩ := h
        subst h'
        exact r0
      | succ i => exact ih i (by simpa using h) (by simpa using h')
  exact (go r i hk hd).mono s
theorem vi_valsT {tg : Expr} {p2 apos cpos : Pos} {y : Str} (h3 : ρ 3 = FZT) (i : Nat)
    (hN : X.N[i]? = some y := by rfl) (hv : Vis X.env.scope y := by first | exact Or.inl rfl | exact Or.inr (Or.inl rfl) | exact Or.inr (Or.inr rfl)) (hd : (y == ("__debug__" : Str)) = false := by decide) (hcd : (y == ("__classdict__" : Str)) = false := by decide)
    (hbase : attributeBase (.Name y p2) "values" X.env (eval (.Name y p2) X.env) = eval (.Name y p2) X.env := by rfl) (hline : (apos.endLine == cpos.line) = true := by rfl) :
    VI X ρ W tg (.Call (.Attribute (.Name y p2) "values" apos) [] [] cpos) (iValsT i) := by
  refine ⟨_, pi_valuesT (pe_var hN hv hd hcd) hbase hline, fun π e σ w R m h => ?_⟩
  unfold iValsT at h
  split at h
  case h_2 => exact h.elim
  rename_i ds q
  obtain ⟨v, h1, h2⟩ := m.bok i _ q
  have h2' : (ρ 3).rep X.K w.G w.H v (.dict ds) (w.fp i) := h2
  rw [h3] at h2'
  obtain ⟨p, od, ks, ds', rfl, g1, e3, g4, _⟩ := h2'
  cases e3
  exact ⟨.ref p, h1, p, od, ks, rfl, m.sub _ _ g1, h _ w m (.refl w) (it_valsT g1 g4)⟩
end
end VL
set_option maxRecDepth 100000
namespace VL
open PySem L2
theorem PostS.pin {C : Cc} {W : WX} {π : List (Nat × V)} {q : Nat × V} {w : WS} {r : Option SO} {D : Ends} (h : PostS C W π w r D) : PostS C W (q :: π) w r D := by
  cases r with
  | none => exact h
  | some x =>
    cases x with
    | nx e => exact fun σ' w' m f => h σ' w' m.unpin f
    | rt b e => exact fun v σ' w' m f k => h v σ' w' m.unpin f k
    | bk e => exact fun σ' w' m f => h σ' w' m.unpin f
    | ct e => exact fun σ' w' m f => h σ' w' m.unpin f
    | ex c e => exact fun σ' w' A hA m f => h σ' w' A hA m.unpin f
end VL
set_option maxRecDepth 100000
namespace VL
open PySem L2 PySem.Spec PyProof.Rows
end VL
set_option maxRecDepth 100000
namespace VL
open PySem PySem.Spec PyProof.Rows PySem.Calls PySem.SeqAt
end VL
set_option maxRecDepth 100000
namespace VL
open PySem L2 PySem.Spec PyProof.Rows
open PySem.W (alike dataLt)
open PySem.SeqAt (shaped)
end VL
set_option maxRecDepth 100000
namespace VP
open PySem L2 VL
def h__law_draw : Fn := drawF
/-- 0: thing -/
def b_is_whole : FS :=
  (sRetO (fAndV (fIsi .int (fVar 0)) (fNotV (fIsi .bool (fVar 0)))))
def h_is_whole : Fn := runF b_is_whole 1
/-- 0: thing, 1: one -/
def b_is_order : FS :=
  (sSeq (sIf (tOr (tNot (fTest (fIsi .list (fVar 0)))) (tNot (fTest (fChain oLe oLe (fC (.int 1)) (fCB gLen (aCons (fVar 0) aNil)) (fC (.int 12)))))) (sRetO (fC (.bool false))) sNil)
  (sSeq (sIf (fTest (fBin oNe (fLc (iSeq (fVar 0)) (gN 1) (tNot (fTest (fCallP h_is_whole 1 (aP (fVar 1) aNil)))) (fVar 1) [1]) (fLst dNil))) (sRetO (fC (.bool false))) sNil)
  (sRetO (fBin oEq (fCB gSorted (aCons (fVar 0) aNil)) (fListRg1 (fCB gLen (aCons (fVar 0) aNil)))))))
def h_is_order : Fn := runF b_is_order 2
/-- 0: script, 1: pools, 2: k, 3: cell -/
def b__law_deck : FS :=
  (sSeq (sNewP 1)
  (sSeq (sFor (iRange1 (fCB gMax (aCons (fC (.int 1)) (aCons (fCB gMin (aCons (fC (.int 63)) (aCons (fScLen (fVar 0)) aNil))) aNil)))) (gN 2) (sSeq (sAsg 3 (fC (.int 0)))
  (sSeq (sIf (fTest (fBin oLt (fVar 2) (fScLen (fVar 0)))) (sAsg 3 (fScIx (fVar 0) (fVar 2))) sNil)
  (sAppP 1 (dCons (fVar 3) (dCons (fCB gInt (aCons (fBin oGe (fVar 3) (fBin oPow (fC (.int 10)) (fC (.int 18)))) aNil)) (dCons (fBin oMul (fC (.int 31)) (fVar 2)) dNil)))))) [2, 3])
  (sRetO (fDeck 1))))
def h__law_deck : Fn := runF b__law_deck 4
/-- 0: deck, 1: n, 2: left, 3: way, 4: k, 5: p -/
def b__law_order : FS :=
  (sSeq (sOwn 2 (fListRg1 (fVar 1)))
  (sSeq (sAsg 3 (fCall h__law_draw 2 [(0, 0)] (aM 0 (aF (fC (.int 4)) aNil))))
  (sSeq (sIf (fTest (fBin oEq (fVar 3) (fC (.int 0)))) (sRetO (fLc (iRange1 (fVar 1)) (gN 4) tTrue (fMth 2 mPop (dCons (fCall h__law_draw 2 [(0, 0)] (aM 0 (aF (fCB gLen (aCons (fVar 2) aNil)) aNil))) dNil)) [4])) sNil)
  (sSeq (sIf (fTest (fBin oEq (fVar 3) (fC (.int 1)))) (sOwn 2 (fUn oRev (fVar 2))) sNil)
  (sSeq (sFor (iRange1 (fBin oMul (fCall h__law_draw 2 [(0, 0)] (aM 0 (aF (fC (.int 7)) aNil))) (fCB gInt (aCons (fBin oGt (fVar 1) (fC (.int 1))) aNil)))) (gN 4) (sSeq (sAsg 5 (fCall h__law_draw 2 [(0, 0)] (aM 0 (aF (fBin oSub (fVar 1) (fC (.int 1))) aNil))))
  (sPut2 2 (fVar 5) 2 (fBin oAdd (fVar 5) (fC (.int 1))) (dCons (fBin oIx (fVar 2) (fBin oAdd (fVar 5) (fC (.int 1)))) (dCons (fBin oIx (fVar 2) (fVar 5)) dNil)))) [4, 5])
  (sRetO (fVar 2)))))))
def h__law_order : Fn := runF b__law_order 6
end VP
set_option maxRecDepth 100000
namespace VP
open PySem L2 VL
/-- 0: deck, 1: order, 2: found, 3: n, 4: way, 5: thing, 6: k, 7: p, 8: q -/
def b__law_near : FS :=
  (sSeq (sOwn 2 (fCB gList (aCons (fVar 1) aNil)))
  (sSeq (sAsg 3 (fCB gLen (aCons (fVar 1) aNil)))
  (sSeq (sAsg 4 (fCall h__law_draw 2 [(0, 0)] (aM 0 (aF (fC (.int 5)) aNil))))
  (sSeq (sIf (fTest (fBin oEq (fVar 4) (fC (.int 0)))) (sRetO (fCall h__law_order 2 [(0, 0)] (aM 0 (aF (fVar 3) aNil)))) sNil)
  (sSeq (sIf (fTest (fBin oEq (fVar 4) (fC (.int 1)))) (sRetO (fUn oRev (fVar 2))) sNil)
  (sSeq (sIf (fTest (fBin oEq (fVar 4) (fC (.int 2)))) (sSeq (sAsg 5 (fMth 2 mPop (dCons (fCall h__law_draw 2 [(0, 0)] (aM 0 (aF (fVar 3) aNil))) dNil)))
  (sSeq (sExpr (fMth 2 mInsert (dCons (fCall h__law_draw 2 [(0, 0)] (aM 0 (aF (fVar 3) aNil))) (dCons (fVar 5) dNil))))
  (sRetO (fVar 2)))) sNil)
  (sSeq (sFor (iRange1 (fCall h__law_draw 2 [(0, 0)] (aM 0 (aF (fC (.int 5)) aNil)))) (gN 6) (sSeq (sAsg 7 (fCall h__law_draw 2 [(0, 0)] (aM 0 (aF (fVar 3) aNil))))
  (sSeq (sAsg 8 (fBin oIx (fLst (dCons (fCall h__law_draw 2 [(0, 0)] (aM 0 (aF (fVar 3) aNil))) (dCons (fCB gMin (aCons (fBin oSub (fVar 3) (fC (.int 1))) (aCons (fBin oAdd (fVar 7) (fC (.int 1))) aNil))) dNil))) (fBin oSub (fVar 4) (fC (.int 3)))))
  (sPut2 2 (fVar 7) 2 (fVar 8) (dCons (fBin oIx (fVar 2) (fVar 8)) (dCons (fBin oIx (fVar 2) (fVar 7)) dNil))))) [6, 7, 8])
  (sRetO (fVar 2)))))))))
def h__law_near : Fn := runF b__law_near 9
end VP
set_option maxRecDepth 100000
namespace VP
open PySem L2 VL
end VP
set_option maxRecDepth 100000
namespace VP
open PySem L2 VL
end VP
set_option maxRecDepth 100000
namespace VP
open PySem L2 VL
end VP
set_option maxRecDepth 100000
namespace VP
open PySem L2 VL
end VP
set_option maxRecDepth 100000
namespace VL
open PySem L2
/-- keeps simp from computing in the kernel -/
theorem tr {α : Sort u} {a b : α} (h : a = b) : a = b := h
section
variable {α β : Type} {a : α} {e e1 : VL.Env} {x : Option B} {i : Nat} {b : B} {d : PyData} {c : Str}
@[simp] theorem x_bnd_ok {k : α → VL.Env → Option (Out β)} : bnd (some (.ok a e)) k = k a e := rfl
@[simp] theorem x_bnd_ex {k : α → VL.Env → Option (Out β)} : bnd (some (.ex c e)) k = some (.ex c e) := rfl
@[simp] theorem x_bndS_ok {k : α → VL.Env → Option SO} : bndS (some (.ok a e)) k = k a e := rfl
@[simp] theorem x_bndS_ex {k : α → VL.Env → Option SO} : bndS (some (.ex c e)) k = some (.ex c e) := rfl
@[simp] theorem x_at0 : at? (x :: e) 0 = x := rfl
@[simp] theorem x_at1 : at? (x :: e) (i + 1) = at? e i := rfl
@[simp] theorem x_dat1 : (B.fr d).dat = some d := rfl
@[simp] theorem x_dat2 {ds : List PyData} : (B.ow ds).dat = some (.list ds) := rfl
@[simp] theorem x_dat3 {ds : List (PyData × PyData)} : (B.od ds).dat = some (.dict ds) := rfl
@[simp] theorem x_dat4 : (B.ex c).dat = none := rfl
@[simp] theorem x_dat5 {ns : List Int} : (B.sc ns).dat = none := rfl
@[simp] theorem x_dat6 {k : Nat} : (B.rs k d).dat = none := rfl
@[simp] theorem x_res_s : res e (.s i) = (at? e i).bind B.dat := rfl
@[simp] theorem x_res_b : res e (.b b) = b.dat := rfl
@[simp] theorem x_fz_fr : fz e (.b (.fr d)) = some (d, e) := rfl
@[simp] theorem x_fz_ow {ds : List PyData} : fz e (.b (.ow ds)) = some (.list ds, e) := rfl
@[simp] theorem x_fz_od {ds : List (PyData × PyData)} : fz e (.b (.od ds)) = some (.dict ds, e) := rfl
@[simp] theorem x_fz_s : fz e (.s i) = match at? e i with
    | some (.fr d) => some (d, e)
    | some (.ow ds) => some (.list ds, e.set i (some (.fr (.list ds))))
    | some (.od kvs) => some (.dict kvs, e.set i (some (.fr (.dict kvs))))
    | some (.tr t) => t.dat.map fun d => (d, e.set i (some (.fr d)))
    | _ => none := rfl
@[simp] theorem x_fzB_fr : fzB e (.b (.fr d)) = some (.fr d, e) := rfl
@[simp] theorem x_fzB_ow {ds : List PyData} : fzB e (.b (.ow ds)) = some (.fr (.list ds), e) := rfl
@[simp] theorem x_fzB_od {ds : List (PyData × PyData)} : fzB e (.b (.od ds)) = some (.fr (.dict ds), e) := rfl
@[simp] theorem x_fzB_ex : fzB e (.b (.ex c)) = some (.ex c, e) := rfl
@[simp] theorem x_fzB_sc {ns : List Int} : fzB e (.b (.sc ns)) = some (.sc ns, e) := rfl
@[simp] theorem x_fzB_s : fzB e (.s i) = match at? e i with
    | some (.ex c) => some (.ex c, e)
    | some (.sc ns) => some (.sc ns, e)
    | _ => (fz e (.s i)).map fun p => (.fr p.1, p.2) := rfl
@[simp] theorem x_okD : okD d e = some (.ok (.b (.fr d)) e) := tr rfl
@[simp] theorem x_fVar : fVar i e = match at? e i with
  | some _ => some (.ok (.s i) e)
  | none => none := tr rfl
@[simp] theorem x_fC : fC d e = some (.ok (.b (.fr d)) e) := tr rfl
@[simp] theorem x_fBin {op : PyData → PyData → Option B} {fa fb : FE} : fBin op fa fb e = bnd (fa e) fun o1 e1 => bnd (fb e1) fun o2 e2 => (res e2 o1).bind fun x => (res e2 o2).bind fun y => (op x y).bind fun z => some (.ok (.b z) e2) := tr rfl
@[simp] theorem x_fUn {op : PyData → Option B} {fa : FE} : fUn op fa e = bnd (fa e) fun o1 e1 => (res e1 o1).bind fun x => (op x).bind fun z => some (.ok (.b z) e1) := tr rfl
@[simp] theorem x_dNil : dNil e = some (.ok [] e) := tr rfl
@[simp] theorem x_dCons {f : FE} {r : FD} : dCons f r e = bnd (f e) fun o e1 => (fz e1 o).bind fun p => bnd (r p.2) fun ds e2 => some (.ok (p.1 :: ds) e2) := tr rfl
@[simp] theorem x_fLst {r : FD} : fLst r e = bnd (r e) fun ds e1 => if ds.length ≤ 1000 then some (.ok (.b (.ow ds)) e1) else none := tr rfl
@[simp] theorem x_fTup {r : FD} : fTup r e = bnd (r e) fun ds e1 => if ds.length ≤ 1000 then some (.ok (.b (.fr (.tuple ds))) e1) else none := tr rfl
@[simp] theorem x_fTest {f : FE} : fTest f e = bnd (f e) fun o e1 => match res e1 o with
  | some (.bool b) => some (.ok b e1)
  | _ => none := tr rfl
@[simp] theorem x_fIf {t : FT} {fa fb : FE} : fIf t fa fb e = bnd (t e) fun b e1 => match b with
  | true => fa e1
  | false => fb e1 := tr rfl
@[simp] theorem x_tAnd {t u : FT} : tAnd t u e = bnd (t e) fun b e1 => match b with
  | true => u e1
  | false => some (.ok false e1) := tr rfl
@[simp] theorem x_tOr {t u : FT} : tOr t u e = bnd (t e) fun b e1 => match b with
  | true => some (.ok true e1)
  | false => u e1 := tr rfl
@[simp] theorem x_tNot {t : FT} : tNot t e = bnd (t e) fun b e1 => some (.ok (!b) e1) := tr rfl
@[simp] theorem x_sSeq {f g : FS} : sSeq f g e = match f e with
  | some (.nx e1) => g e1
  | r => r := tr rfl
@[simp] theorem x_sExpr {f : FE} : sExpr f e = bndS (f e) fun _ e1 => some (.nx e1) := tr rfl
@[simp] theorem x_sAsg {f : FE} : sAsg i f e = bndS (f e) fun o e1 => (fzB e1 o).bind fun p => some (.nx (p.2.set i (some p.1))) := tr rfl
@[simp] theorem x_sOwn {f : FE} : sOwn i f e = bndS (f e) fun o e1 => match o with
  | .b b => some (.nx (e1.set i (some b)))
  | .s _ => none := tr rfl
@[simp] theorem x_sRetO {f : FE} : sRetO f e = bndS (f e) fun o e1 => match o with
  | .b b => some (.rt b e1)
  | .s i => (at? e1 i).bind fun b => some (.rt b (e1.set i none)) := tr rfl
@[simp] theorem x_sRetN : sRetN e = some (.rt (.fr .none) e) := tr rfl
@[simp] theorem x_sNil : sNil e = some (.nx e) := tr rfl
@[simp] theorem x_sRaise : sRaise c e = some (.ex c e) := tr rfl
@[simp] theorem x_sBrk : sBrk e = some (.bk e) := tr rfl
@[simp] theorem x_sIf {t : FT} {f g : FS} : sIf t f g e = bndS (t e) fun b e1 => match b with
  | true => f e1
  | false => g e1 := tr rfl
@[simp] theorem x_aNil : aNil e = some (.ok [] e) := tr rfl
@[simp] theorem x_aCons {f : FE} {r : FA} : aCons f r e = bnd (f e) fun o e1 => bnd (r e1) fun os e2 => some (.ok (o :: os) e2) := tr rfl
@[simp] theorem x_resAll0 : resAll e [] = some [] := rfl
@[simp] theorem x_resAll1 {o : O} {os : List O} : resAll e (o :: os) = (res e o).bind fun d => (resAll e os).bind fun ds => some (d :: ds) := rfl
@[simp] theorem x_fCB {g : List PyData → Option B} {fa : FA} : fCB g fa e = bnd (fa e) fun os e1 => (resAll e1 os).bind fun ds => (g ds).bind fun z => some (.ok (.b z) e1) := tr rfl
@[simp] theorem x_fIsi {T : Ty} {fa : FE} : fIsi T fa e = bnd (fa e) fun o e1 => (res e1 o).bind fun d => okD (.bool (isD T d)) e1 := tr rfl
@[simp] theorem x_iSeq {f : FE} : iSeq f e = bnd (f e) fun o e1 => (fz e1 o).bind fun p => match p.1 with
  | .list ds => some (.ok ds p.2)
  | _ => none := tr rfl
@[simp] theorem x_sFor {fi : FI} {g : FG} {body : FS} {dead : List Nat} : sFor fi g body dead e = bndS (fi e) fun ds e1 => sForL g body dead ds e1 := tr rfl
@[simp] theorem x_forget0 : forget [] e = e := rfl
@[simp] theorem x_forget1 {vs : List Nat} : forget (i :: vs) e = forget vs (e.set i none) := rfl
@[simp] theorem x_fNotV {fa : FE} : fNotV fa e = bnd (fa e) fun o e1 => match res e1 o with
  | some (.bool b) => okD (.bool (!b)) e1
  | _ => none := tr rfl
@[simp] theorem x_fAndV {fa fb : FE} : fAndV fa fb e = bnd (fa e) fun o e1 => match res e1 o with
  | some (.bool true) => fb e1
  | some (.bool false) => okD (.bool false) e1
  | _ => none := tr rfl
@[simp] theorem x_fOrV {fa fb : FE} : fOrV fa fb e = bnd (fa e) fun o e1 => match res e1 o with
  | some (.bool true) => okD (.bool true) e1
  | some (.bool false) => fb e1
  | _ => none := tr rfl
@[simp] theorem x_fChain {g h : PyData → PyData → Option B} {fa fb fc : FE} : fChain g h fa fb fc e = bnd (fa e) fun o1 e1 => bnd (fb e1) fun o2 e2 =>
  (res e2 o1).bind fun x => (res e2 o2).bind fun y => match g x y with
    | some (.fr (.bool true)) => bnd (fc e2) fun o3 e3 => (res e3 o2).bind fun y' => (res e3 o3).bind fun z => (h y' z).bind fun r => some (.ok (.b r) e3)
    | some (.fr (.bool false)) => some (.ok (.b (.fr (.bool false))) e2)
    | _ => none := tr rfl
@[simp] theorem x_aF {f : FE} {r : FA} : aF f r e = bnd (f e) fun o e1 => (fzB e1 o).bind fun p => bnd (r p.2) fun os e2 => some (.ok (.b p.1 :: os) e2) := tr rfl
@[simp] theorem x_aM {r : FA} : aM i r e = match at? e i with
  | some _ => bnd (r e) fun os e2 => some (.ok (.s i :: os) e2)
  | none => none := tr rfl
@[simp] theorem x_aP {f : FE} {r : FA} : aP f r e = bnd (f e) fun o e1 => match o with
  | .s i => bnd (r e1) fun os e2 => some (.ok (.s i :: os) e2)
  | .b _ => (fzB e1 o).bind fun p => bnd (r p.2) fun os e2 => some (.ok (.b p.1 :: os) e2) := tr rfl
@[simp] theorem x_bindO0 : bindO e [] = some [] := rfl
@[simp] theorem x_bindOb {os : List O} : bindO e (.b b :: os) = (bindO e os).bind fun bs => some (b :: bs) := rfl
@[simp] theorem x_bindOs {os : List O} : bindO e (.s i :: os) = (at? e i).bind fun x => (bindO e os).bind fun bs => some (x :: bs) := rfl
@[simp] theorem x_putBack0 {e2 : VL.Env} : putBack e2 [] e = e := rfl
@[simp] theorem x_putBack1 {e2 : VL.Env} {j : Nat} {r : List (Nat × Nat)} : putBack e2 ((j, i) :: r) e = putBack e2 r (e.set i (at? e2 j)) := rfl
@[simp] theorem x_lendO0 : lendO e [] = some [] := rfl
@[simp] theorem x_lendOb {os : List O} : lendO e (.b b :: os) = (lendO e os).bind fun bs => some (b :: bs) := rfl
@[simp] theorem x_lendOs {os : List O} : lendO e (.s i :: os) = ((at? e i).bind lent).bind fun x => (lendO e os).bind fun bs => some (x :: bs) := rfl
@[simp] theorem x_lent1 : lent (.fr d) = some (.fr d) := rfl
@[simp] theorem x_lent2 {ds : List PyData} : lent (.ow ds) = some (.fr (.list ds)) := rfl
@[simp] theorem x_lent3 {ds : List (PyData × PyData)} : lent (.od ds) = some (.fr (.dict ds)) := rfl
@[simp] theorem x_lent4 : lent (.ex c) = some (.ex c) := rfl
@[simp] theorem x_lent5 {ns : List Int} : lent (.sc ns) = some (.sc ns) := rfl
@[simp] theorem x_flatO0 : flatO [] = true := rfl
@[simp] theorem x_flatOs {os : List O} : flatO (.s i :: os) = flatO os := rfl
@[simp] theorem x_flatO1 {os : List O} : flatO (.b (.fr d) :: os) = flatO os := rfl
@[simp] theorem x_flatO2 {os : List O} : flatO (.b (.ex c) :: os) = flatO os := rfl
@[simp] theorem x_flatO3 {os : List O} {ns : List Int} : flatO (.b (.sc ns) :: os) = flatO os := rfl
@[simp] theorem x_fCallP {F : Fn} {n : Nat} {fa : FA} : fCallP F n fa e = bnd (fa e) fun os e1 => if flatO os = true then (lendO e1 os).bind fun bs => if bs.length = n then match F bs with
  | some (.ret (.fr d) _) => if isFlat d = true then okD d e1 else none
  | some (.ex c _) => some (.ex c e1)
  | _ => none else none else none := tr rfl
@[simp] theorem x_fCall {F : Fn} {n : Nat} {mi : List (Nat × Nat)} {fa : FA} : fCall F n mi fa e = bnd (fa e) fun os e1 => if (slotsOk mi 0 os && miOk mi os && os.length == n) = true then (bindO e1 os).bind fun bs => match F bs with
  | none => none
  | some (.ret b e2) => some (.ok (.b b) (putBack e2 mi e1))
  | some (.ex c e2) => some (.ex c (putBack e2 mi e1)) else none := tr rfl
@[simp] theorem x_slotsOk0 {mi : List (Nat × Nat)} {j : Nat} : slotsOk mi j [] = true := rfl
@[simp] theorem x_slotsOks {mi : List (Nat × Nat)} {j : Nat} {os : List O} : slotsOk mi j (.s i :: os) = (decide ((j, i) ∈ mi) && slotsOk mi (j + 1) os) := rfl
@[simp] theorem x_slotsOk1 {mi : List (Nat × Nat)} {j : Nat} {os : List O} : slotsOk mi j (.b (.fr d) :: os) = slotsOk mi (j + 1) os := rfl
@[simp] theorem x_slotsOk2 {mi : List (Nat × Nat)} {j : Nat} {os : List O} : slotsOk mi j (.b (.ex c) :: os) = slotsOk mi (j + 1) os := rfl
@[simp] theorem x_slotsOk3 {mi : List (Nat × Nat)} {j : Nat} {os : List O} {ns : List Int} : slotsOk mi j (.b (.sc ns) :: os) = slotsOk mi (j + 1) os := rfl
@[simp] theorem x_miOk0 {os : List O} : miOk [] os = true := rfl
@[simp] theorem x_miOk1 {os : List O} {j : Nat} {mi : List (Nat × Nat)} : miOk ((j, i) :: mi) os = ((match os[j]? with
  | some (.s k) => k == i
  | _ => false) && miOk mi os) := rfl
@[simp] theorem x_isFlat1 : isFlat .none = true := rfl
@[simp] theorem x_isFlat2 {b : Bool} : isFlat (.bool b) = true := rfl
@[simp] theorem x_isFlat3 {i : Int} : isFlat (.int i) = true := rfl
@[simp] theorem x_isFlat4 {x : Str} : isFlat (.str x) = true := rfl
@[simp] theorem x_fMth {g : List PyData → List PyData → Option (B × List PyData)} {fd : FD} : fMth i g fd e = match at? e i with
  | some (.ow _) => bnd (fd e) fun as e1 => match at? e1 i with
    | some (.ow ds) => (g ds as).bind fun p => some (.ok (.b p.1) (e1.set i (some (.ow p.2))))
    | _ => none
  | _ => none := tr rfl
@[simp] theorem x_fScLen {fa : FE} : fScLen fa e = bnd (fa e) fun o e1 => match bOf e1 o with
  | some (.sc ns) => okD (.int ns.length) e1
  | _ => none := tr rfl
@[simp] theorem x_fScIx {fa fb : FE} : fScIx fa fb e = bnd (fa e) fun o e1 => bnd (fb e1) fun o2 e2 => match bOf e2 o, res e2 o2 with
  | some (.sc ns), some (.int i) => (atI ns i).bind fun n => okD (.int n) e2
  | _, _ => none := tr rfl
@[simp] theorem x_bOfs : bOf e (.s i) = at? e i := rfl
@[simp] theorem x_bOfb : bOf e (.b b) = some b := rfl
@[simp] theorem x_iRange1 {f : FE} : iRange1 f e = bnd (f e) fun o e1 => match res e1 o with
  | some (.int j) => if lim j = true then some (.ok (rngN 0 j.toNat) e1) else none
  | _ => none := tr rfl
@[simp] theorem x_iRange2 {f g : FE} : iRange2 f g e = bnd (f e) fun o e1 => bnd (g e1) fun o2 e2 => match res e2 o, res e2 o2 with
  | some (.int i), some (.int j) => if lim i = true ∧ lim j = true then some (.ok (rngN i (j - i).toNat) e2) else none
  | _, _ => none := tr rfl
@[simp] theorem x_gN : gN i d e = some (e.set i (some (.fr d))) := tr rfl
@[simp] theorem x_fListRg1 {fa : FE} : fListRg1 fa e = bnd (fa e) fun o e1 => match res e1 o with
  | some (.int j) => if rgOk 0 j = true then some (.ok (.b (.ow (rngN 0 j.toNat))) e1) else none
  | _ => none := tr rfl
@[simp] theorem x_fLc {fi : FI} {g : FG} {t : FT} {f : FE} {vs : List Nat} : fLc fi g t f vs e = bnd (fi e) fun ds e1 => fLcL g t f vs ds [] (forget vs e1) := tr rfl
@[simp] theorem x_tTrue : tTrue e = some (.ok true e) := tr rfl
@[simp] theorem x_sPut2 {fx fy : FE} {j : Nat} {fd : FD} : sPut2 i fx j fy fd e = bndS (fd e) fun ds e1 => match ds with
  | [a, b] => bndS (putAt i fx a e1) fun _ e2 => bndS (putAt j fy b e2) fun _ e3 => some (.nx e3)
  | _ => none := tr rfl
@[simp] theorem x_sPut {fx fv : FE} : sPut i fx fv e = bndS (fv e) fun o e1 => (fz e1 o).bind fun p => bndS (putAt i fx p.1 p.2) fun _ e2 => some (.nx e2) := tr rfl
@[simp] theorem x_putAt {f : FE} : putAt i f d e = match at? e i with
  | none => none
  | some _ => bnd (f e) fun o e1 => match res e1 o, at? e1 i with
    | some (.int k), some (.ow ds) => (ixN ds.length k).bind fun j => some (.ok () (e1.set i (some (.ow (ds.set j d)))))
    | _, _ => none := tr rfl
@[simp] theorem x_sNewP : sNewP i e = some (.nx (e.set i (some (.rs 1 (.list []))))) := tr rfl
@[simp] theorem x_sAppP {fd : FD} : sAppP i fd e = match at? e i with
  | some (.rs 1 _) => bndS (fd e) fun ds e1 => match ds, at? e1 i with
    | [.int a, .int b, .int c], some (.rs 1 (.list l)) => if l.length < big then some (.nx (e1.set i (some (.rs 1 (.list (l ++ [encP (a, b, c)])))))) else none
    | _, _ => none
  | _ => none := tr rfl
@[simp] theorem x_fDeck : fDeck i e = match at? e i with
  | some (.rs 1 (.list l)) => some (.ok (.b (.rs 0 (.list [.list l, .int 0]))) (e.set i none))
  | _ => none := tr rfl
@[simp] theorem x_oAddI {i j : Int} : oAdd (.int i) (.int j) = some (.fr (.int (i + j))) := tr rfl
@[simp] theorem x_opI0 {g : Int → Int → Int} {i j : Int} : opI0 g (.int i) (.int j) = some (.fr (.int (g i j))) := tr rfl
@[simp] theorem x_opB0 {g : Int → Int → Bool} {i j : Int} : opB0 g (.int i) (.int j) = some (.fr (.bool (g i j))) := tr rfl
@[simp] theorem x_opI {C : Int → Int → Bool} {g : Int → Int → Int} {i j : Int} : opI C g (.int i) (.int j) = if C i j = true then some (.fr (.int (g i j))) else none := tr rfl
@[simp] theorem x_oMulI {i j : Int} : oMul (.int i) (.int j) = if cMul i j = true then some (.fr (.int (i * j))) else none := tr rfl
@[simp] theorem x_gInt1 {i : Int} : gInt [.int i] = some (.fr (.int i)) := tr rfl
@[simp] theorem x_gInt2 {b : Bool} : gInt [.bool b] = some (.fr (.int (if b then 1 else 0))) := tr rfl
@[simp] theorem x_gMax2 {i j : Int} : gMax [.int i, .int j] = some (.fr (.int (if j > i then j else i))) := tr rfl
@[simp] theorem x_gMin2 {i j : Int} : gMin [.int i, .int j] = some (.fr (.int (if j < i then j else i))) := tr rfl
@[simp] theorem x_gLenL {ds : List PyData} : gLen [.list ds] = some (.fr (.int ds.length)) := tr rfl
@[simp] theorem x_gListL {ds : List PyData} : gList [.list ds] = some (.ow ds) := tr rfl
@[simp] theorem x_oRevL {ds : List PyData} : oRev (.list ds) = some (.ow ds.reverse) := tr rfl
@[simp] theorem x_oIxL {ds : List PyData} {i : Int} : oIx (.list ds) (.int i) = (atI ds i).map .fr := tr rfl
@[simp] theorem x_oEqI {i j : Int} : oEq (.int i) (.int j) = some (.fr (.bool (decide (i = j)))) := by
  have h : ∀ k : Int, SeqAt.shaped (.int k) = true := fun k => by
    unfold SeqAt.shaped
    rw [PyData.canLay0, PyData.depth]
    rfl
  unfold oEq
  rw [if_pos ⟨h i, h j⟩, PyData.eqv]
  rfl
end
theorem seq_nx {f g : FS} {e e1 : VL.Env} (h : f e = some (.nx e1)) : sSeq f g e = g e1 := by
  unfold sSeq
  rw [h]
theorem forL_nil {g : FG} {body : FS} {dead : List Nat} {e : VL.Env} : sForL g body dead [] e = some (.nx (forget dead e)) := tr rfl
theorem forL_nx {g : FG} {body : FS} {dead : List Nat} {d : PyData} {ds : List PyData} {e e1 e2 : VL.Env} (hg : g d e = some e1) (hb : body e1 = some (.nx e2)) : sForL g body dead (d :: ds) e = sForL g body dead ds (forget dead e2) := by
  rw [sForL, hg]
  show (match body e1 with
      | some (.nx e2) => sForL g body dead ds (forget dead e2)
      | some (.ct e2) => sForL g body dead ds (forget dead e2)
      | some (.bk e2) => some (.nx (forget dead e2))
      | some (.rt b e2) => some (.rt b e2)
      | some (.ex c e2) => some (.ex c e2)
      | none => none) = _
  rw [hb]
theorem runF_rt {g : FS} {n : Nat} {bs : List B} {e e' : VL.Env} {b : B} (he : bs.map some ++ List.replicate (n - bs.length) none = e) (h : g e = some (.rt b e')) : runF g n bs = some (.ret b e') := by
  unfold runF
  rw [he, h]
theorem asInts_map : ∀ ns : List Int, asInts (ns.map .int) = some ns
  | [] => rfl
  | n :: ns => by
    show (asInts (ns.map .int)).map (n :: ·) = some (n :: ns)
    rw [asInts_map ns]
    rfl
end VL
set_option maxRecDepth 100000
namespace VL
open PySem L2 PySem.W PySem.SeqAt
section
variable {e e1 e2 e3 : VL.Env} {F : Fn} {n : Nat} {fa : FA} {os : List O} {bs : List B} {b : B} {d : PyData} {mi : List (Nat × Nat)} {c : Str}
/-- a loop over typed items that keeps a state -/
theorem for_fold {α S : Type} {g : FG} {body : FS} {dead : List Nat} (D : α → PyData) (E : S → VL.Env) (F : S → α → S) (hd : ∀ s, forget dead (E s) = E s) : ∀ (xs : List α) (s : S),
    (∀ (pre : List α) (x : α) (suf : List α), xs = pre ++ x :: suf → ∃ e1 e2, g (D x) (E (pre.foldl F s)) = some e1 ∧ body e1 = some (.nx e2) ∧ forget dead e2 = E (F (pre.foldl F s) x)) →
    sForL g body dead (xs.map D) (E s) = some (.nx (E (xs.foldl F s)))
  | [], s, _ => by
    show sForL g body dead [] (E s) = _
    rw [forL_nil, hd]
    rfl
  | x :: xs, s, k => by
    obtain ⟨e1, e2, h1, h2, h3⟩ := k [] x xs rfl
    have h1' : g (D x) (E s) = some e1 := h1
    show sForL g body dead (D x :: xs.map D) (E s) = _
    rw [forL_nx h1' h2, h3]
    exact for_fold D E F hd xs (F s x) fun pre y suf e => k (x :: pre) y suf (by rw [e]; rfl)
end
class Lay (α : Type) [DecidableEq α] [Datum α] : Prop where
  lay : ∀ a : α, (Datum.toD a).canLay0 = true
  small : Datum.depth α ≤ 64
instance : Lay Int := ⟨fun _ => by show (PyData.int _).canLay0 = true; rw [PyData.canLay0], by decide⟩
instance : Lay Bool := ⟨fun _ => by show (PyData.bool _).canLay0 = true; rw [PyData.canLay0], by decide⟩
theorem layAll {α : Type} [DecidableEq α] [Datum α] [Lay α] : ∀ xs : List α, PyData.canLayAll0 (xs.map Datum.toD) = true
  | [] => rfl
  | x :: xs => by
    rw [List.map_cons, PyData.canLayAll0, Lay.lay x, layAll xs]
    rfl
theorem lay_lst {α : Type} [DecidableEq α] [Datum α] [Lay α] (xs : List α) : (Datum.toD xs).canLay0 = true := by
  show (PyData.list (xs.map Datum.toD)).canLay0 = true
  rw [PyData.canLay0]
  exact layAll xs
instance : Lay (List Int) := ⟨lay_lst, by decide⟩
instance : Lay (List (List Int)) := ⟨lay_lst, by decide⟩
instance : Lay (List (List (List Int))) := ⟨lay_lst, by decide⟩
instance : Lay (List Bool) := ⟨lay_lst, by decide⟩
section
variable {α : Type} [DecidableEq α] [Datum α] [Lay α]
theorem shaped_toD (a : α) : shaped (Datum.toD a) = true := by
  unfold shaped
  rw [Lay.lay a, decide_eq_true (Nat.le_trans (Datum.depth_le a) Lay.small)]
  rfl
theorem o_eq (a b : α) : oEq (Datum.toD a) (Datum.toD b) = some (.fr (.bool (decide (a = b)))) := by
  unfold oEq
  rw [if_pos ⟨shaped_toD a, shaped_toD b⟩, Datum.eqv]
theorem o_ne (a b : α) : oNe (Datum.toD a) (Datum.toD b) = some (.fr (.bool (!decide (a = b)))) := by
  unfold oNe
  rw [if_pos ⟨shaped_toD a, shaped_toD b⟩, Datum.eqv]
theorem atI_get? {β : Type} {xs : List β} {j : Nat} {x : β} (h : xs[j]? = some x) : atI xs (j : Int) = some x := by
  unfold atI ixN
  have hj := (List.getElem?_eq_some_iff.mp h).1
  rw [if_pos (by omega), if_pos (by omega)]
  simpa using h
end
end VL
set_option maxRecDepth 100000
namespace VP
open PySem L2 VL PySem.W PySem.SeqAt
theorem lim_small {n : Nat} (h : n ≤ 1000) : lim (n : Int) = true := by
  unfold lim
  rw [decide_eq_true_eq]
  omega
/-- the numbers from 0 on -/
def iota (n : Nat) : List Int := (List.range n).map fun (i : Nat) => (i : Int)
/-- just the numbers from 0 on -/
def IsOrd (n : Nat) (xs : List Int) : Prop := xs.Perm (iota n)
theorem IsOrd.length {n : Nat} {xs : List Int} (h : IsOrd n xs) : xs.length = n := by
  rw [List.Perm.length_eq h, iota, List.length_map, List.length_range]
theorem sort_ord {n : Nat} {xs : List Int} (h : IsOrd n xs) : xs.mergeSort leI = iota n := by
  have trans : ∀ a b c : Int, leI a b = true → leI b c = true → leI a c = true := fun a b c h1 h2 => decide_eq_true (Int.le_trans (of_decide_eq_true h1) (of_decide_eq_true h2))
  have total : ∀ a b : Int, (leI a b || leI b a) = true := fun a b => by
    unfold leI
    rw [Bool.or_eq_true, decide_eq_true_eq, decide_eq_true_eq]
    exact Int.le_total a b
  have s1 := List.pairwise_mergeSort trans total xs
  have p1 : (xs.mergeSort leI).Perm (iota n) := (List.mergeSort_perm xs leI).trans h
  have s2 : (iota n).Pairwise fun a b => leI a b = true := by
    unfold iota
    rw [List.pairwise_map]
    exact (List.pairwise_lt_range).imp fun {a b} hab => decide_eq_true (by omega)
  exact p1.eq_of_pairwise (fun a b _ _ h1 h2 => Int.le_antisymm (of_decide_eq_true h1) (of_decide_eq_true h2)) s1 s2
end VP
set_option maxRecDepth 100000
namespace VP
open PySem L2 VL PySem.W PySem.SeqAt
theorem rngNat (n : Nat) : rngN 0 n = (List.range n).map fun (i : Nat) => PyData.int (i : Int) := by
  unfold rngN
  refine List.map_congr_left fun i _ => ?_
  rw [Int.zero_add]
def cellOf (ns : List Int) (i : Nat) : Int := ns.getD i 0
def plOf (ns : List Int) (i : Nat) : Pl := (cellOf ns i, (if decide (10 ^ 18 ≤ cellOf ns i) = true then 1 else 0), 31 * (i : Int))
def eDeck (ns : List Int) (ps : List Pl) : VL.Env := [some (.sc ns), some (.rs 1 (.list (ps.map encP))), none, none]
def bodyDeck : FS := (sSeq (sAsg 3 (fC (.int 0)))
  (sSeq (sIf (fTest (fBin oLt (fVar 2) (fScLen (fVar 0)))) (sAsg 3 (fScIx (fVar 0) (fVar 2))) sNil)
  (sAppP 1 (dCons (fVar 3) (dCons (fCB gInt (aCons (fBin oGe (fVar 3) (fBin oPow (fC (.int 10)) (fC (.int 18)))) aNil)) (dCons (fBin oMul (fC (.int 31)) (fVar 2)) dNil))))))
theorem foldl_len (ns : List Int) : ∀ (l : List Nat) (ps : List Pl), (l.foldl (fun s i => s ++ [plOf ns i]) ps).length = ps.length + l.length
  | [], ps => rfl
  | x :: l, ps => by
    rw [List.foldl_cons, foldl_len ns l, List.length_append, List.length_cons]
    simp
    omega
theorem deck_step (ns : List Int) (ps : List Pl) (i : Nat) (h : ps.length < 100) : bodyDeck ((eDeck ns ps).set 2 (some (.fr (.int (i : Int))))) = some (.nx [some (.sc ns), some (.rs 1 (.list ((ps ++ [plOf ns i]).map encP))), some (.fr (.int (i : Int))), some (.fr (.int (cellOf ns i)))]) := by
  have s1 : (sAsg 3 (fC (.int 0))) ((eDeck ns ps).set 2 (some (.fr (.int (i : Int))))) = some (.nx [some (.sc ns), some (.rs 1 (.list (ps.map encP))), some (.fr (.int (i : Int))), some (.fr (.int 0))]) := rfl
  have s2 : (sIf (fTest (fBin oLt (fVar 2) (fScLen (fVar 0)))) (sAsg 3 (fScIx (fVar 0) (fVar 2))) sNil) [some (.sc ns), some (.rs 1 (.list (ps.map encP))), some (.fr (.int (i : Int))), some (.fr (.int 0))] = some (.nx [some (.sc ns), some (.rs 1 (.list (ps.map encP))), some (.fr (.int (i : Int))), some (.fr (.int (cellOf ns i)))]) := by
    by_cases hi : i < ns.length
    · have q1 : decide ((i : Int) < (ns.length : Int)) = true := decide_eq_true (by omega)
      have q2 : atI ns (i : Int) = some (cellOf ns i) := by
        refine atI_get? ?_
        unfold cellOf
        rw [List.getD_eq_getElem?_getD, List.getElem?_eq_getElem hi]
        rfl
      simp [hi, q2]
    · have q1 : decide ((i : Int) < (ns.length : Int)) = false := decide_eq_false (by omega)
      have q2 : cellOf ns i = 0 := by
        unfold cellOf
        rw [List.getD_eq_getElem?_getD, List.getElem?_eq_none (by omega)]
        rfl
      simp [hi, q2]
  have s3 : (sAppP 1 (dCons (fVar 3) (dCons (fCB gInt (aCons (fBin oGe (fVar 3) (fBin oPow (fC (.int 10)) (fC (.int 18)))) aNil)) (dCons (fBin oMul (fC (.int 31)) (fVar 2)) dNil)))) [some (.sc ns), some (.rs 1 (.list (ps.map encP))), some (.fr (.int (i : Int))), some (.fr (.int (cellOf ns i)))] = some (.nx [some (.sc ns), some (.rs 1 (.list ((ps ++ [plOf ns i]).map encP))), some (.fr (.int (i : Int))), some (.fr (.int (cellOf ns i)))]) := by
    have q1 : cMul 31 (i : Int) = true := by
      unfold cMul
      rw [Bool.or_eq_true]
      exact .inl (by decide)
    have q2 : cPow 10 18 = true := by decide
    have q3 : (ps.map encP).length < big := by rw [List.length_map]; unfold big; omega
    rw [List.length_map] at q3
    simp [q1, q2, q3, plOf]
  unfold bodyDeck
  rw [seq_nx s1, seq_nx s2, s3]
theorem t__law_deckX (ns : List Int) : ∃ e, h__law_deck [.sc ns] = some (.ret (.rs 0 (encD ((List.range (max 1 (min 63 ns.length))).foldl (fun s i => s ++ [plOf ns i]) []) 0)) e) := by
  let n : Nat := max 1 (min 63 ns.length)
  have hn : 1 ≤ n ∧ n ≤ 63 := by show 1 ≤ max 1 (min 63 ns.length) ∧ max 1 (min 63 ns.length) ≤ 63; omega
  let ps : List Pl := (List.range n).foldl (fun s i => s ++ [plOf ns i]) []
  have hl : ps.length = n := by
    have := foldl_len ns (List.range n) []
    rw [List.length_range, List.length_nil, Nat.zero_add] at this
    exact this
  have a2 : (sFor (iRange1 (fCB gMax (aCons (fC (.int 1)) (aCons (fCB gMin (aCons (fC (.int 63)) (aCons (fScLen (fVar 0)) aNil))) aNil)))) (gN 2) bodyDeck [2, 3]) (eDeck ns []) = some (.nx (eDeck ns ps)) := by
    have it : (iRange1 (fCB gMax (aCons (fC (.int 1)) (aCons (fCB gMin (aCons (fC (.int 63)) (aCons (fScLen (fVar 0)) aNil))) aNil)))) (eDeck ns []) = some (.ok ((List.range n).map fun (i : Nat) => PyData.int (i : Int)) (eDeck ns [])) := by
      have q0 : (if (if (ns.length : Int) < 63 then (ns.length : Int) else 63) > 1 then (if (ns.length : Int) < 63 then (ns.length : Int) else 63) else 1) = (n : Int) := by
        show _ = ((max 1 (min 63 ns.length) : Nat) : Int)
        split <;> split at * <;> omega
      have q1 : lim (n : Int) = true := lim_small (by omega)
      simp [eDeck, q0, q1, rngNat]
    rw [x_sFor, it, x_bndS_ok]
    refine for_fold (fun (i : Nat) => PyData.int (i : Int)) (eDeck ns) (fun s i => s ++ [plOf ns i]) (fun s => rfl) (List.range n) [] fun pre x suf e => ⟨_, _, rfl, deck_step ns _ x ?_, rfl⟩
    rw [foldl_len]
    have h1 := congrArg List.length e
    rw [List.length_range, List.length_append, List.length_cons] at h1
    simp
    omega
  have a3 : (sRetO (fDeck 1)) (eDeck ns ps) = some (.rt (.rs 0 (encD ps 0)) [some (.sc ns), none, none, none]) := rfl
  refine ⟨[some (.sc ns), none, none, none], ?_⟩
  unfold h__law_deck
  refine runF_rt (e := [some (.sc ns), none, none, none]) rfl ?_
  show (sSeq (sNewP 1) (sSeq (sFor (iRange1 (fCB gMax (aCons (fC (.int 1)) (aCons (fCB gMin (aCons (fC (.int 63)) (aCons (fScLen (fVar 0)) aNil))) aNil)))) (gN 2) bodyDeck [2, 3]) (sRetO (fDeck 1)))) _ = _
  rw [seq_nx (e1 := eDeck ns []) rfl, seq_nx a2, a3]
end VP
set_option maxRecDepth 100000
namespace VP
open PySem L2 VL PySem.W PySem.SeqAt
theorem ixN_of {n : Nat} {i : Int} (h0 : 0 ≤ i) (h1 : i < n) : ixN n i = some i.toNat := by
  unfold ixN
  rw [if_pos h0, if_pos h1]
theorem swap_perm {xs : List Int} {p q : Nat} (hp : p < xs.length) (hq : q < xs.length) : ((xs.set p xs[q]).set q xs[p]).Perm xs := List.set_set_perm hp hq
end VP
set_option maxRecDepth 100000
namespace VP
open PySem L2 VL PySem.W PySem.SeqAt
theorem erase_perm : ∀ {xs : List Int} {j : Nat} (hj : j < xs.length), (xs[j] :: xs.eraseIdx j).Perm xs
  | [], j, hj => by simp at hj
  | x :: xs, 0, _ => List.Perm.refl _
  | x :: xs, j + 1, hj => by
    have ih := erase_perm (xs := xs) (j := j) (by simpa using hj)
    exact (List.Perm.swap x (xs[j]'(by simpa using hj)) (xs.eraseIdx j)).trans (ih.cons x)
end VP
set_option maxRecDepth 100000
namespace TM
open PySem L2 VL PySem.W PySem.SeqAt
inductive R (α : Type) where
  | no
  | ok (a : α)
  | ex (c : Str)
def R.bind {α β : Type} (m : R α) (k : α → R β) : R β := match m with
  | .no => .no
  | .ok a => k a
  | .ex c => .ex c
def ob {α β : Type} (m : Option α) (k : α → R β) : R β := match m with
  | none => .no
  | some a => k a
@[simp] theorem bind_ok {α β : Type} {a : α} {k : α → R β} : (R.ok a).bind k = k a := rfl
@[simp] theorem bind_no {α β : Type} {k : α → R β} : (R.no : R α).bind k = .no := rfl
@[simp] theorem bind_ex {α β : Type} {c : Str} {k : α → R β} : (R.ex c : R α).bind k = .ex c := rfl
@[simp] theorem ob_some {α β : Type} {a : α} {k : α → R β} : ob (some a) k = k a := rfl
@[simp] theorem ob_none {α β : Type} {k : α → R β} : ob (none : Option α) k = .no := rfl
theorem bind_assoc {α β γ : Type} (m : R α) (k : α → R β) (l : β → R γ) : (m.bind k).bind l = m.bind fun a => (k a).bind l := by cases m <;> rfl
/-- a list or dict of its own, by its data -/
def bow : PyData → B
  | .list ds => .ow ds
  | .dict ks => .od ks
  | x => .fr x
theorem bow_dat (x : PyData) : (bow x).dat = some x := by cases x <;> rfl
/-- what a slot is known to hold -/
inductive Sl where
  | d (x : PyData)
  | o (x : PyData)
  | rs (k : Nat) (x : PyData)
  | ex (c : Str)
  | sc (ns : List Int)
  | xo (o : Option Str)
  | t (x : Tr)
/-- None, or an error that is held -/
def xB : Option Str → B
  | none => .fr .none
  | some c => .ex c
def Sl.ok : Sl → Option B → Prop
  | .d x, b => b.bind B.dat = some x
  | .o x, b => b = some (bow x)
  | .rs k x, b => b = some (.rs k x)
  | .ex c, b => b = some (.ex c)
  | .sc ns, b => b = some (.sc ns)
  | .xo q, b => b = some (xB q)
  | .t x, b => b = some (.tr x)
abbrev Ctx := List (Option Sl)
structure Cov (Γ : Ctx) (e : VL.Env) : Prop where
  len : e.length = Γ.length
  hold : ∀ (i : Nat) (s : Sl), Γ[i]? = some (some s) → s.ok (at? e i)
/-- how a block may end -/
inductive PO where
  | nx (Γ : Ctx)
  | rt (s : Sl) (Γ : Ctx)
  | fn (Γ : Ctx)
  | bk (Γ : Ctx)
def PO.ok : PO → SO → Prop
  | .nx Γ, w => ∃ e, w = .nx e ∧ Cov Γ e
  | .rt s Γ, w => ∃ b e, w = .rt b e ∧ s.ok (some b) ∧ Cov Γ e
  | .fn Γ, w => ∃ e, (w = .nx e ∨ w = .rt (.fr .none) e) ∧ Cov Γ e
  | .bk Γ, w => ∃ e, w = .bk e ∧ Cov Γ e
abbrev KC := VL.Env → Option SO
def J (Γ : Ctx) (C : KC) {α : Type} (m : R α) (po : α → PO) : Prop := ∀ e, Cov Γ e → match m with
  | .no => True
  | .ok a => ∃ w, C e = some w ∧ (po a).ok w
  | .ex c => ∃ e', C e = some (.ex c e')
theorem J.to {Γ Γ' : Ctx} {C C' : KC} {α : Type} {m : R α} {po : α → PO} (h : J Γ' C' m po) (k : ∀ e, Cov Γ e → ∃ e', Cov Γ' e' ∧ C e = C' e') : J Γ C m po := fun e he => by
  obtain ⟨e', h1, h2⟩ := k e he
  rw [h2]
  exact h e' h1
theorem J.eq {Γ : Ctx} {C C' : KC} {α : Type} {m : R α} {po : α → PO} (h : J Γ C' m po) (k : C = C') : J Γ C m po := k ▸ h
theorem J.no {Γ : Ctx} {C : KC} {α : Type} {po : α → PO} : J Γ C (.no : R α) po := fun _ _ => True.intro
theorem j_ob {Γ : Ctx} {C : KC} {α β : Type} {m : Option α} {mk : α → R β} {po : β → PO} (h : ∀ a, m = some a → J Γ C (mk a) po) : J Γ C (ob m mk) po := by
  cases m with
  | none => exact .no
  | some a => exact h a rfl
theorem Cov.lt {Γ : Ctx} {e : VL.Env} (h : Cov Γ e) {i : Nat} {s : Option Sl} (hi : Γ[i]? = some s) : i < e.length := by
  rw [h.len]
  exact (List.getElem?_eq_some_iff.mp hi).1
theorem Cov.set {Γ : Ctx} {e : VL.Env} (h : Cov Γ e) {i : Nat} {s : Sl} {b : Option B} (hb : s.ok b) : Cov (Γ.set i (some s)) (e.set i b) := by
  refine ⟨by rw [List.length_set, List.length_set, h.len], fun j t hj => ?_⟩
  by_cases e1 : i = j
  · subst e1
    have hl : i < Γ.length := by
      have := (List.getElem?_eq_some_iff.mp hj).1
      rwa [List.length_set] at this
    rw [List.getElem?_set_self hl] at hj
    cases hj
    rw [at_set_lt (by rw [h.len]; exact hl)]
    exact hb
  · rw [List.getElem?_set_ne e1] at hj
    rw [at_set_ne e1]
    exact h.hold j t hj
theorem Cov.drop {Γ : Ctx} {e : VL.Env} (h : Cov Γ e) (i : Nat) (b : Option B) : Cov (Γ.set i none) (e.set i b) := by
  refine ⟨by rw [List.length_set, List.length_set, h.len], fun j t hj => ?_⟩
  by_cases e1 : i = j
  · subst e1
    have hl : i < Γ.length := by
      have := (List.getElem?_eq_some_iff.mp hj).1
      rwa [List.length_set] at this
    rw [List.getElem?_set_self hl] at hj
    cases hj
  · rw [List.getElem?_set_ne e1] at hj
    rw [at_set_ne e1]
    exact h.hold j t hj
/-- slots kept (1), forgotten (0), read only from here on (2) -/
def restr : List Nat → Ctx → Ctx
  | _, [] => []
  | [], _ :: Γ => none :: restr [] Γ
  | 0 :: k, _ :: Γ => none :: restr k Γ
  | 2 :: k, some (.o x) :: Γ => some (.d x) :: restr k Γ
  | _ :: k, s :: Γ => s :: restr k Γ
theorem restr_len (k : List Nat) (Γ : Ctx) : (restr k Γ).length = Γ.length := by
  induction Γ generalizing k with
  | nil => unfold restr; rfl
  | cons s Γ ih =>
    unfold restr
    split <;> simp_all
theorem Sl.weak {x : PyData} {b : Option B} (h : (Sl.o x).ok b) : (Sl.d x).ok b := by
  show b.bind B.dat = some x
  rw [show b = some (bow x) from h]
  exact bow_dat x
theorem restr_get : ∀ (k : List Nat) (Γ : Ctx) (i : Nat) (s : Sl), (restr k Γ)[i]? = some (some s) → Γ[i]? = some (some s) ∨ ∃ x, s = .d x ∧ Γ[i]? = some (some (.o x))
  | _, [], i, s, h => by unfold restr at h; simp at h
  | [], t :: Γ, i, s, h => by
    unfold restr at h
    cases i with
    | zero => simp at h
    | succ i => simpa using restr_get [] Γ i s (by simpa using h)
  | n :: k, t :: Γ, i, s, h => by
    unfold restr at h
    cases i with
    | zero =>
      split at h <;> simp_all
    | succ i =>
      have : (restr k Γ)[i]? = some (some s) := by split at h <;> simp_all
      simpa using restr_get k Γ i s this
theorem Cov.restr {Γ : Ctx} {e : VL.Env} (h : Cov Γ e) (k : List Nat) : Cov (restr k Γ) e := by
  refine ⟨by rw [restr_len, h.len], fun i s hi => ?_⟩
  rcases restr_get k Γ i s hi with h1 | ⟨x, rfl, h1⟩
  · exact h.hold i s h1
  · exact Sl.weak (h.hold i _ h1)
theorem Cov.of {Γ Γ' : Ctx} {e : VL.Env} (h : Cov Γ e) {k : List Nat} (hk : TM.restr k Γ = Γ') : Cov Γ' e := hk ▸ h.restr k
theorem Cov.own {Γ : Ctx} {e : VL.Env} (h : Cov Γ e) {i : Nat} {x : PyData} (hi : Γ[i]? = some (some (.o x))) : at? e i = some (bow x) := h.hold i _ hi
theorem Cov.dat {Γ : Ctx} {e : VL.Env} (h : Cov Γ e) {i : Nat} {x : PyData} (hi : Γ[i]? = some (some (.d x))) : res e (.s i) = some x := h.hold i _ hi
theorem Cov.datO {Γ : Ctx} {e : VL.Env} (h : Cov Γ e) {i : Nat} {x : PyData} (hi : Γ[i]? = some (some (.o x))) : res e (.s i) = some x   := Sl.weak (h.hold i _ hi)
/-- an operand is read as x -/
def Rd (Γ : Ctx) (o : O) (x : PyData) : Prop := ∀ e, Cov Γ e → res e o = some x
theorem rd_d {Γ : Ctx} {i : Nat} {x : PyData} (h : Γ[i]? = some (some (.d x))) : Rd Γ (.s i) x := fun _ he => he.dat h
theorem rd_o {Γ : Ctx} {i : Nat} {x : PyData} (h : Γ[i]? = some (some (.o x))) : Rd Γ (.s i) x := fun _ he => he.datO h
theorem rd_b {Γ : Ctx} {x : PyData} : Rd Γ (.b (.fr x)) x := fun _ _ => rfl
theorem rd_w {Γ : Ctx} {x : PyData} : Rd Γ (.b (bow x)) x := fun _ _ => bow_dat x
/-- an operand is frozen to x, with the context behind it -/
def Fz (Γ : Ctx) (o : O) (x : PyData) (Γ' : Ctx) : Prop := ∀ e, Cov Γ e → ∃ e', fz e o = some (x, e') ∧ Cov Γ' e'
theorem fz_b {Γ : Ctx} {x : PyData} : Fz Γ (.b (.fr x)) x Γ := fun e he => ⟨e, rfl, he⟩
theorem fz_w {Γ : Ctx} {x : PyData} : Fz Γ (.b (bow x)) x Γ := fun e he => ⟨e, by cases x <;> rfl, he⟩
theorem Cov.setd {Γ : Ctx} {e : VL.Env} (h : Cov Γ e) {i : Nat} {x : PyData} (hi : Γ[i]? = some (some (.d x))) {b : B} (hb : b.dat = some x) : Cov Γ (e.set i (some b)) := by
  refine ⟨by rw [List.length_set, h.len], fun j t hj => ?_⟩
  by_cases e1 : i = j
  · subst e1
    rw [hi] at hj
    cases hj
    rw [at_set_lt (h.lt hi)]
    exact hb
  · rw [at_set_ne e1]
    exact h.hold j t hj
theorem fz_d {Γ : Ctx} {i : Nat} {x : PyData} (h : Γ[i]? = some (some (.d x))) : Fz Γ (.s i) x Γ := fun e he => by
  have h1 := he.hold i _ h
  show ∃ e', (match at? e i with
    | some (.fr d) => some (d, e)
    | some (.ow ds) => some (.list ds, e.set i (some (.fr (.list ds))))
    | some (.od kvs) => some (.dict kvs, e.set i (some (.fr (.dict kvs))))
    | some (.tr t) => t.dat.map fun d => (d, e.set i (some (.fr d)))
    | _ => none) = some (x, e') ∧ Cov Γ e'
  have h2 : (at? e i).bind B.dat = some x := h1
  cases q : at? e i with
  | none => rw [q] at h2; cases h2
  | some b =>
    rw [q] at h2
    cases b with
    | fr d => cases h2; exact ⟨e, rfl, he⟩
    | ow ds => cases h2; exact ⟨_, rfl, he.setd h rfl⟩
    | od ds => cases h2; exact ⟨_, rfl, he.setd h rfl⟩
    | ex c => cases h2
    | rs k d => cases h2
    | tr t => cases h2
    | sc ns => cases h2
/-- frozen for a name, an answer, an argument -/
def FzB (Γ : Ctx) (o : O) (b : B) (Γ' : Ctx) : Prop := ∀ e, Cov Γ e → ∃ e', fzB e o = some (b, e') ∧ Cov Γ' e'
theorem fzb_of {Γ Γ' : Ctx} {o : O} {x : PyData} (h : Fz Γ o x Γ') : FzB Γ o (.fr x) Γ' := fun e he => by
  obtain ⟨e', h1, h2⟩ := h e he
  refine ⟨e', ?_, h2⟩
  cases o with
  | s i =>
    unfold fzB
    unfold fz at h1
    dsimp only at h1 ⊢
    unfold fz
    cases q : at? e i with
    | none => rw [q] at h1; cases h1
    | some b =>
      rw [q] at h1
      cases b with
      | fr d => cases h1; dsimp only; rw [q]; rfl
      | ow ds => cases h1; dsimp only; rw [q]; rfl
      | od ds => cases h1; dsimp only; rw [q]; rfl
      | ex c => cases h1
      | rs k d => cases h1
      | sc ns => cases h1
      | tr t =>
        dsimp only at h1 ⊢
        rw [q]
        cases qd : t.dat with
        | none => rw [qd] at h1; cases h1
        | some d => rw [qd] at h1; cases h1; dsimp only; rw [qd]; rfl
  | b b =>
    cases b with
    | fr d => cases h1; rfl
    | ow ds => cases h1; rfl
    | od ds => cases h1; rfl
    | ex c => cases h1
    | rs k d => cases h1
    | sc ns => cases h1
    | tr t =>
      have h1' : (t.dat.map fun d => (d, e)) = some (x, e') := h1
      show ((t.dat.map fun d => (d, e)).map fun p => (B.fr p.1, p.2)) = _
      rw [h1']
      rfl
theorem fzb_sc {Γ : Ctx} {i : Nat} {ns : List Int} (h : Γ[i]? = some (some (.sc ns))) : FzB Γ (.s i) (.sc ns) Γ := fun e he => ⟨e, by
  have h1 : at? e i = some (.sc ns) := he.hold i _ h
  unfold fzB
  dsimp only
  rw [h1], he⟩
def cX {α : Type} (f : VL.Env → Option (Out α)) (K : α → KC) : KC := fun e => bndS (f e) K
theorem bndS_bnd {α β : Type} (r : Option (Out α)) (k : α → VL.Env → Option (Out β)) (K : β → KC) : bndS (bnd r k) K = bndS r fun a e => bndS (k a e) K := by
  cases r with
  | none => rfl
  | some o => cases o <;> rfl
theorem bndS_ob {α β : Type} (r : Option α) (k : α → Option (Out β)) (K : β → KC) : bndS (r.bind k) K = r.bind fun a => bndS (k a) K := by cases r <;> rfl
variable {Γ Γ' Γ1 : Ctx} {α β σ τ : Type} {m : R α} {po : α → PO} {K : O → KC} {C : KC} {o o1 o2 : O} {x y : PyData} {b z : B} {i j : Nat} {f fa fb fc : FE} {rest : FS} {op : PyData → PyData → Option B}
/-- a name that is there -/
theorem j_var {s : Sl} (h : Γ[i]? = some (some s)) (k : J Γ (K (.s i)) m po) : J Γ (cX (fVar i) K) m po := k.to fun e he => ⟨e, he, by
  have : ∃ b, at? e i = some b := by
    have h1 := he.hold i _ h
    cases q : at? e i with
    | some b => exact ⟨b, rfl⟩
    | none => rw [q] at h1; cases s <;> cases h1
  obtain ⟨b, hb⟩ := this
  show bndS (match at? e i with
  | some _ => some (Out.ok (O.s i) e)
  | none => none) K = _
  rw [hb]
  rfl⟩
theorem j_c {d : PyData} (k : J Γ (K (.b (.fr d))) m po) : J Γ (cX (fC d) K) m po := k
def cFz (o : O) (K : PyData → KC) : KC := fun e => (fz e o).bind fun p => K p.1 p.2
theorem j_fz {K : PyData → KC} (h : Fz Γ o x Γ') (k : J Γ' (K x) m po) : J Γ (cFz o K) m po := k.to fun e he => by
  obtain ⟨e', h1, h2⟩ := h e he
  exact ⟨e', h2, by show (fz e o).bind _ = _; rw [h1]; rfl⟩
def cFzB (o : O) (K : B → KC) : KC := fun e => (fzB e o).bind fun p => K p.1 p.2
theorem j_fzb {K : B → KC} (h : FzB Γ o b Γ') (k : J Γ' (K b) m po) : J Γ (cFzB o K) m po := k.to fun e he => by
  obtain ⟨e', h1, h2⟩ := h e he
  exact ⟨e', h2, by show (fzB e o).bind _ = _; rw [h1]; rfl⟩
def cOp (op : PyData → PyData → Option B) (o1 o2 : O) (K : O → KC) : KC := fun e => (res e o1).bind fun x => (res e o2).bind fun y => (op x y).bind fun z => K (.b z) e
theorem j_bin (k : J Γ (cX fa fun o1 => cX fb fun o2 => cOp op o1 o2 K) m po) : J Γ (cX (fBin op fa fb) K) m po := k.eq (funext fun e => by
  show bndS (bnd (fa e) fun o1 e1 => bnd (fb e1) fun o2 e2 => (res e2 o1).bind fun x => (res e2 o2).bind fun y => (op x y).bind fun z => some (Out.ok (O.b z) e2)) K = _
  rw [bndS_bnd]
  refine congrArg _ (funext fun a => funext fun e1 => ?_)
  rw [bndS_bnd]
  refine congrArg _ (funext fun a => funext fun e2 => ?_)
  rw [bndS_ob]
  refine congrArg _ (funext fun _ => ?_)
  rw [bndS_ob]
  refine congrArg _ (funext fun _ => ?_)
  rw [bndS_ob]
  rfl)
theorem j_op (h1 : Rd Γ o1 x) (h2 : Rd Γ o2 y) (h3 : op x y = some z) (k : J Γ (K (.b z)) m po) : J Γ (cOp op o1 o2 K) m po := k.to fun e he => ⟨e, he, by
  show (res e o1).bind _ = _
  rw [h1 e he, Option.bind_some, h2 e he, Option.bind_some, h3]
  rfl⟩
/-- an operator that may say no -/
def OpR (op : PyData → PyData → Option B) (x y : PyData) (r : Option β) (z : β → B) : Prop := ∀ a, r = some a → op x y = some (z a)
theorem j_opR {r : Option β} {z : β → B} {mk : β → R α} (h1 : Rd Γ o1 x) (h2 : Rd Γ o2 y) (h3 : OpR op x y r z) (k : ∀ a, J Γ (K (.b (z a))) (mk a) po) : J Γ (cOp op o1 o2 K) (ob r mk) po := j_ob fun a ha => j_op h1 h2 (h3 a ha) (k a)
def cUn (op : PyData → Option B) (o : O) (K : O → KC) : KC := fun e => (res e o).bind fun x => (op x).bind fun z => K (.b z) e
theorem j_un {op : PyData → Option B} (k : J Γ (cX fa fun o => cUn op o K) m po) : J Γ (cX (fUn op fa) K) m po := k.eq (funext fun e => by
  show bndS (bnd (fa e) fun o1 e1 => (res e1 o1).bind fun x => (op x).bind fun z => some (Out.ok (O.b z) e1)) K = _
  rw [bndS_bnd]
  refine congrArg _ (funext fun a => funext fun e1 => ?_)
  rw [bndS_ob]
  refine congrArg _ (funext fun _ => ?_)
  rw [bndS_ob]
  rfl)
theorem j_unop {op : PyData → Option B} (h1 : Rd Γ o x) (h3 : op x = some z) (k : J Γ (K (.b z)) m po) : J Γ (cUn op o K) m po := k.to fun e he => ⟨e, he, by
  show (res e o).bind _ = _
  rw [h1 e he, Option.bind_some, h3]
  rfl⟩
section
variable {K : List PyData → KC} {fd : FD}
theorem j_dnil (k : J Γ (K []) m po) : J Γ (cX dNil K) m po := k
theorem j_dcons (k : J Γ (cX f fun o => cFz o fun d => cX fd fun ds => K (d :: ds)) m po) : J Γ (cX (dCons f fd) K) m po := k.eq (funext fun e => by
  show bndS (bnd (f e) fun o e1 => (fz e1 o).bind fun p => bnd (fd p.2) fun ds e2 => some (Out.ok (p.1 :: ds) e2)) K = _
  rw [bndS_bnd]
  refine congrArg _ (funext fun a => funext fun e1 => ?_)
  rw [bndS_ob]
  refine congrArg _ (funext fun p => ?_)
  rw [bndS_bnd]
  rfl)
end
def cLst (ds : List PyData) (K : O → KC) : KC := fun e => if ds.length ≤ 1000 then K (.b (.ow ds)) e else none
theorem j_lst {fd : FD} (k : J Γ (cX fd fun ds => cLst ds K) m po) : J Γ (cX (fLst fd) K) m po := k.eq (funext fun e => by
  show bndS (bnd (fd e) fun ds e1 => if ds.length ≤ 1000 then some (Out.ok (O.b (.ow ds)) e1) else none) K = _
  rw [bndS_bnd]
  refine congrArg _ (funext fun a => funext fun e1 => ?_)
  unfold cLst
  split <;> rfl)
theorem j_lst2 {ds : List PyData} (x : PyData) (hx : PyData.list ds = x) (h : decide (ds.length ≤ 1000) = true) (k : J Γ (K (.b (bow x))) m po) : J Γ (cLst ds K) m po := k.to fun e he => ⟨e, he, by
  show (if ds.length ≤ 1000 then K (.b (.ow ds)) e else none) = _
  rw [if_pos (of_decide_eq_true h), ← hx]
  rfl⟩
def cTup (ds : List PyData) (K : O → KC) : KC := fun e => if ds.length ≤ 1000 then K (.b (.fr (.tuple ds))) e else none
theorem j_tup {fd : FD} (k : J Γ (cX fd fun ds => cTup ds K) m po) : J Γ (cX (fTup fd) K) m po := k.eq (funext fun e => by
  show bndS (bnd (fd e) fun ds e1 => if ds.length ≤ 1000 then some (Out.ok (O.b (.fr (.tuple ds))) e1) else none) K = _
  rw [bndS_bnd]
  refine congrArg _ (funext fun a => funext fun e1 => ?_)
  unfold cTup
  split <;> rfl)
theorem j_tup2 {ds : List PyData} (x : PyData) (hx : PyData.tuple ds = x) (h : decide (ds.length ≤ 1000) = true) (k : J Γ (K (.b (.fr x))) m po) : J Γ (cTup ds K) m po := k.to fun e he => ⟨e, he, by
  show (if ds.length ≤ 1000 then K (.b (.fr (.tuple ds))) e else none) = _
  rw [if_pos (of_decide_eq_true h), hx]⟩
section
variable {K : Bool → KC} {t u : FT}
def cBool (o : O) (K : Bool → KC) : KC := fun e => match res e o with
  | some (.bool b) => K b e
  | _ => none
theorem j_test (k : J Γ (cX f fun o => cBool o K) m po) : J Γ (cX (fTest f) K) m po := k.eq (funext fun e => by
  show bndS (bnd (f e) fun o e1 => match res e1 o with
    | some (.bool b) => some (Out.ok b e1)
    | _ => none) K = _
  rw [bndS_bnd]
  refine congrArg _ (funext fun a => funext fun e1 => ?_)
  unfold cBool
  split <;> rfl)
theorem j_bool {b : Bool} (h : Rd Γ o (.bool b)) (k : J Γ (K b) m po) : J Γ (cBool o K) m po := k.to fun e he => ⟨e, he, by
  unfold cBool
  rw [h e he]⟩
theorem j_not (k : J Γ (cX t fun b => K (!b)) m po) : J Γ (cX (tNot t) K) m po := k.eq (funext fun e => by
  show bndS (bnd (t e) fun b e1 => some (Out.ok (!b) e1)) K = _
  rw [bndS_bnd]
  rfl)
/-- a test told alone -/
def kB : Bool → KC := fun b e => some (.rt (.fr (.bool b)) e)
theorem j_kb {b : Bool} (h : restr l Γ = Γ') {a : α} (hp : po a = .rt (.d (.bool b)) Γ') : J Γ (kB b) (.ok a) po := fun e he => ⟨_, rfl, by
  rw [hp]
  exact ⟨_, _, rfl, rfl, he.of h⟩⟩
/-- a test, whole: what it tells, then on -/
theorem j_sub {m1 : R β} {mk : β → R α} {bv : β → Bool} {Γ1 : β → Ctx} (h : J Γ (cX t kB) m1 fun a => .rt (.d (.bool (bv a))) (Γ1 a)) (k : ∀ a, J (Γ1 a) (K (bv a)) (mk a) po) : J Γ (cX t K) (m1.bind mk) po := fun e he => by
  have h1 := h e he
  cases m1 with
  | no => trivial
  | ex c =>
    obtain ⟨e', h2⟩ := h1
    have h2' : bndS (t e) kB = some (.ex c e') := h2
    have q : t e = some (.ex c e') := by
      cases q : t e with
      | none => rw [q] at h2'; cases h2'
      | some r =>
        rw [q] at h2'
        cases r with
        | ok b e1 => cases h2'
        | ex c2 e1 => cases h2'; rfl
    show ∃ e', bndS (t e) K = _
    rw [q]
    exact ⟨_, rfl⟩
  | ok a =>
    obtain ⟨w, h2, b, e', rfl, h3, h4⟩ := h1
    have h2' : bndS (t e) kB = some (.rt b e') := h2
    have q : t e = some (.ok (bv a) e') := by
      cases q : t e with
      | none => rw [q] at h2'; cases h2'
      | some r =>
        rw [q] at h2'
        cases r with
        | ex c2 e1 => cases h2'
        | ok b1 e1 =>
          cases h2'
          cases h3
          rfl
    have h5 := k a e' h4
    show match mk a with
      | .no => True
      | .ok a => ∃ w, bndS (t e) K = some w ∧ (po a).ok w
      | .ex c => ∃ e', bndS (t e) K = some (.ex c e')
    rw [q]
    exact h5
theorem j_subB {b : Bool} (h : J Γ (cX t kB) (.ok b) fun a => .rt (.d (.bool a)) Γ) (k : J Γ (K b) m po) : J Γ (cX t K) m po := by
  have h' : J Γ (cX t kB) (.ok ()) fun _ => .rt (.d (.bool b)) Γ := fun e he => h e he
  exact j_sub (mk := fun _ => m) (bv := fun _ => b) (Γ1 := fun _ => Γ) h' fun _ => k
theorem j_or {a b : Bool} (h1 : J Γ (cX t kB) (.ok a) fun a => .rt (.d (.bool a)) Γ) (h2 : J Γ (cX u kB) (.ok b) fun a => .rt (.d (.bool a)) Γ) (k : J Γ (K (a || b)) m po) : J Γ (cX (tOr t u) K) m po := by
  have h : J Γ (cX (tOr t u) kB) (.ok (a || b)) fun a => .rt (.d (.bool a)) Γ := by
    refine J.eq (C' := cX t fun b => match b with
      | true => kB true
      | false => cX u kB) ?_ (funext fun e => ?_)
    · have := j_sub (K := fun b => match b with
        | true => kB true
        | false => cX u kB) h1 (mk := fun a => .ok (a || b)) (po := fun a => .rt (.d (.bool a)) Γ) (bv := fun a => a) (Γ1 := fun _ => Γ) fun a => by
          cases a with
          | false => exact h2
          | true => exact fun e he => ⟨_, rfl, _, _, rfl, rfl, he⟩
      exact this
    · show bndS (bnd (t e) fun b e1 => match b with
        | true => some (.ok true e1)
        | false => u e1) kB = _
      rw [bndS_bnd]
      refine congrArg _ (funext fun a => funext fun e1 => ?_)
      cases a <;> rfl
  exact j_subB h k
theorem j_orC (k : J Γ (cX t fun b => match b with
      | true => K true
      | false => cX u K) m po) : J Γ (cX (tOr t u) K) m po := k.eq (funext fun e => by
  show bndS (bnd (t e) fun b e1 => match b with
      | true => some (.ok true e1)
      | false => u e1) K = _
  rw [bndS_bnd]
  refine congrArg _ (funext fun a => funext fun e1 => ?_)
  cases a <;> rfl)
/-- two ways -/
theorem j_ite {a : Bool} {A B : KC} {m1 m2 : R α} (h1 : J Γ A m1 po) (h2 : J Γ B m2 po) : J Γ (match a with
      | true => A
      | false => B) (if a = true then m1 else m2) po := by
  cases a with
  | true => exact h1
  | false => exact h2
end
/-- and, or, not as values -/
theorem j_notV (k : J Γ (cX fa fun o => cBool o fun b => K (.b (.fr (.bool (!b))))) m po) : J Γ (cX (fNotV fa) K) m po := k.eq (funext fun e => by
  show bndS (bnd (fa e) fun o e1 => match res e1 o with
    | some (.bool b) => okD (.bool (!b)) e1
    | _ => none) K = _
  rw [bndS_bnd]
  refine congrArg _ (funext fun a => funext fun e1 => ?_)
  unfold cBool
  split <;> rfl)
end TM
set_option maxRecDepth 100000
namespace TM
open PySem L2 VL PySem.W PySem.SeqAt
variable {Γ Γ' Γ1 Γ2 : Ctx} {α β σ τ : Type} {m : R α} {po : α → PO} {K : O → KC} {C : KC} {o o1 o2 o3 : O} {x y xv : PyData} {b z : B} {i j n : Nat} {f fa fb fc fx fv : FE} {rest : FS} {op : PyData → PyData → Option B} {fd : FD} {fo fl fh : FO} {r : FA} {F : Fn} {mi : List (Nat × Nat)}
section
variable {K : List O → KC}
theorem j_anil (k : J Γ (K []) m po) : J Γ (cX aNil K) m po := k
theorem j_acons (k : J Γ (cX f fun o => cX r fun os => K (o :: os)) m po) : J Γ (cX (aCons f r) K) m po := k.eq (funext fun e => by
  show bndS (bnd (f e) fun o e1 => bnd (r e1) fun os e2 => some (Out.ok (o :: os) e2)) K = _
  rw [bndS_bnd]
  refine congrArg _ (funext fun a => funext fun e1 => ?_)
  rw [bndS_bnd]
  rfl)
theorem j_aF (k : J Γ (cX f fun o => cFzB o fun b => cX r fun os => K (.b b :: os)) m po) : J Γ (cX (aF f r) K) m po := k.eq (funext fun e => by
  show bndS (bnd (f e) fun o e1 => (fzB e1 o).bind fun p => bnd (r p.2) fun os e2 => some (Out.ok (.b p.1 :: os) e2)) K = _
  rw [bndS_bnd]
  refine congrArg _ (funext fun a => funext fun e1 => ?_)
  rw [bndS_ob]
  refine congrArg _ (funext fun p => ?_)
  rw [bndS_bnd]
  rfl)
theorem j_aM {s : Sl} (h : Γ[i]? = some (some s)) (k : J Γ (cX r fun os => K (.s i :: os)) m po) : J Γ (cX (aM i r) K) m po := k.to fun e he => ⟨e, he, by
  have : ∃ b, at? e i = some b := by
    have h1 := he.hold i _ h
    cases q : at? e i with
    | some b => exact ⟨b, rfl⟩
    | none => rw [q] at h1; cases s <;> cases h1
  obtain ⟨b, hb⟩ := this
  show bndS (match at? e i with
    | some _ => bnd (r e) fun os e2 => some (Out.ok (.s i :: os) e2)
    | none => none) K = _
  rw [hb]
  dsimp only
  rw [bndS_bnd]
  rfl⟩
def cAP (o : O) (r : FA) (K : List O → KC) : KC := fun e => match o with
  | .s i => bndS (r e) fun os => K (.s i :: os)
  | .b _ => (fzB e o).bind fun p => bndS (r p.2) fun os => K (.b p.1 :: os)
theorem j_aP (k : J Γ (cX f fun o => cAP o r K) m po) : J Γ (cX (aP f r) K) m po := k.eq (funext fun e => by
  show bndS (bnd (f e) fun o e1 => match o with
    | .s i => bnd (r e1) fun os e2 => some (Out.ok (.s i :: os) e2)
    | .b _ => (fzB e1 o).bind fun p => bnd (r p.2) fun os e2 => some (Out.ok (.b p.1 :: os) e2)) K = _
  rw [bndS_bnd]
  refine congrArg _ (funext fun a => funext fun e1 => ?_)
  cases a with
  | s i =>
    show bndS (bnd (r e1) _) K = _
    rw [bndS_bnd]
    rfl
  | b b =>
    show bndS ((fzB e1 (.b b)).bind _) K = ((fzB e1 (.b b)).bind _)
    rw [bndS_ob]
    refine congrArg _ (funext fun p => ?_)
    rw [bndS_bnd]
    rfl)
theorem j_aPs (k : J Γ (cX r fun os => K (.s i :: os)) m po) : J Γ (cAP (.s i) r K) m po := k
theorem j_aPb (k : J Γ (cX r fun os => K (.b (.fr x) :: os)) m po) : J Γ (cAP (.b (.fr x)) r K) m po := k
end
/-- operands are read as xs -/
def RdA (Γ : Ctx) (os : List O) (xs : List PyData) : Prop := ∀ e, Cov Γ e → resAll e os = some xs
theorem ra_nil : RdA Γ [] [] := fun _ _ => rfl
theorem ra_cons {os : List O} {xs : List PyData} (h : Rd Γ o x) (t : RdA Γ os xs) : RdA Γ (o :: os) (x :: xs) := fun e he => by
  show (res e o).bind _ = _
  rw [h e he, Option.bind_some, t e he]
  rfl
def cCB (g : List PyData → Option B) (os : List O) (K : O → KC) : KC := fun e => (resAll e os).bind fun ds => (g ds).bind fun z => K (.b z) e
theorem j_cb {g : List PyData → Option B} (k : J Γ (cX r fun os => cCB g os K) m po) : J Γ (cX (fCB g r) K) m po := k.eq (funext fun e => by
  show bndS (bnd (r e) fun os e1 => (resAll e1 os).bind fun ds => (g ds).bind fun z => some (Out.ok (O.b z) e1)) K = _
  rw [bndS_bnd]
  refine congrArg _ (funext fun a => funext fun e1 => ?_)
  rw [bndS_ob]
  refine congrArg _ (funext fun _ => ?_)
  rw [bndS_ob]
  rfl)
theorem j_cbop {g : List PyData → Option B} {os : List O} {xs : List PyData} (h1 : RdA Γ os xs) (h3 : g xs = some z) (k : J Γ (K (.b z)) m po) : J Γ (cCB g os K) m po := k.to fun e he => ⟨e, he, by
  show (resAll e os).bind _ = _
  rw [h1 e he, Option.bind_some, h3]
  rfl⟩
def cIsi (T : Ty) (o : O) (K : O → KC) : KC := fun e => (res e o).bind fun d => K (.b (.fr (.bool (isD T d)))) e
theorem j_isi {T : Ty} (k : J Γ (cX fa fun o => cIsi T o K) m po) : J Γ (cX (fIsi T fa) K) m po := k.eq (funext fun e => by
  show bndS (bnd (fa e) fun o e1 => (res e1 o).bind fun d => okD (.bool (isD T d)) e1) K = _
  rw [bndS_bnd]
  refine congrArg _ (funext fun a => funext fun e1 => ?_)
  rw [bndS_ob]
  rfl)
theorem j_isi2 {T : Ty} {b : Bool} (h1 : Rd Γ o x) (h2 : isD T x = b) (k : J Γ (K (.b (.fr (.bool b)))) m po) : J Γ (cIsi T o K) m po := k.to fun e he => ⟨e, he, by
  show (res e o).bind _ = _
  rw [h1 e he, ← h2]
  rfl⟩
def kO : O → KC := fun o e => match res e o with
  | some d => some (.rt (.fr d) e)
  | none => none
theorem j_ko {l : List Nat} (h1 : Rd Γ o x) {a : α} (hp : po a = .rt (.d x) Γ') (h : restr l Γ = Γ') : J Γ (kO o) (.ok a) po := fun e he => ⟨.rt (.fr x) e, by
  unfold kO
  rw [h1 e he], by
  rw [hp]
  exact ⟨_, _, rfl, rfl, he.of h⟩⟩
def cCh (g h : PyData → PyData → Option B) (o1 o2 : O) (fc : FE) (K : O → KC) : KC := fun e2 => (res e2 o1).bind fun x => (res e2 o2).bind fun y => match g x y with
    | some (.fr (.bool true)) => bndS (fc e2) fun o3 e3 => (res e3 o2).bind fun y' => (res e3 o3).bind fun z => (h y' z).bind fun r => K (.b r) e3
    | some (.fr (.bool false)) => K (.b (.fr (.bool false))) e2
    | _ => none
theorem j_chain {g h : PyData → PyData → Option B} (k : J Γ (cX fa fun o1 => cX fb fun o2 => cCh g h o1 o2 fc K) m po) : J Γ (cX (fChain g h fa fb fc) K) m po := k.eq (funext fun e => by
  show bndS (bnd (fa e) fun o1 e1 => bnd (fb e1) fun o2 e2 => (res e2 o1).bind fun x => (res e2 o2).bind fun y => match g x y with
    | some (.fr (.bool true)) => bnd (fc e2) fun o3 e3 => (res e3 o2).bind fun y' => (res e3 o3).bind fun z => (h y' z).bind fun r => some (Out.ok (O.b r) e3)
    | some (.fr (.bool false)) => some (Out.ok (O.b (.fr (.bool false))) e2)
    | _ => none) K = _
  rw [bndS_bnd]
  refine congrArg _ (funext fun o1 => funext fun e1 => ?_)
  rw [bndS_bnd]
  refine congrArg _ (funext fun o2 => funext fun e2 => ?_)
  rw [bndS_ob]
  unfold cCh
  refine congrArg _ (funext fun x => ?_)
  rw [bndS_ob]
  refine congrArg _ (funext fun y => ?_)
  cases q : g x y with
  | none => rfl
  | some b =>
    cases b with
    | fr d =>
      cases d with
      | bool b =>
        cases b with
        | true =>
          dsimp only
          rw [bndS_bnd]
          refine congrArg _ (funext fun o3 => funext fun e3 => ?_)
          rw [bndS_ob]
          refine congrArg _ (funext fun x => ?_)
          rw [bndS_ob]
          refine congrArg _ (funext fun x => ?_)
          rw [bndS_ob]
          rfl
        | false => rfl
      | _ => rfl
    | _ => rfl)
theorem j_chain2 {g h : PyData → PyData → Option B} {b1 b2 : Bool} (h1 : Rd Γ o1 x) (h2 : Rd Γ o2 y) (hg : g x y = some (.fr (.bool b1))) (hc : J Γ (cX fc kO) (.ok ()) fun _ => .rt (.d xv) Γ) (hh : h y xv = some (.fr (.bool b2))) (k : J Γ (K (.b (.fr (.bool (b1 && b2))))) m po) : J Γ (cCh g h o1 o2 fc K) m po := fun e he => by
  obtain ⟨w, q1, b, e', rfl, q2, q3⟩ := hc e he
  have q4 : ∃ o3, fc e = some (.ok o3 e') ∧ res e' o3 = some xv := by
    have q1' : bndS (fc e) kO = some (.rt b e') := q1
    cases q : fc e with
    | none => rw [q] at q1'; cases q1'
    | some r =>
      rw [q] at q1'
      cases r with
      | ex c e1 => cases q1'
      | ok o3 e1 =>
        have q5 : kO o3 e1 = some (.rt b e') := q1'
        unfold kO at q5
        split at q5
        · rename_i d qd
          cases q5
          cases q2
          exact ⟨o3, rfl, qd⟩
        · cases q5
  obtain ⟨o3, q5, q6⟩ := q4
  unfold cCh
  rw [h1 e he, Option.bind_some, h2 e he, Option.bind_some, hg]
  cases b1 with
  | false => exact k e he
  | true =>
    dsimp only
    rw [q5]
    have hC : (bndS (some (Out.ok o3 e')) fun o3 e3 => (res e3 o2).bind fun y' => (res e3 o3).bind fun z => (h y' z).bind fun r => K (.b r) e3) = K (.b (.fr (.bool (true && b2)))) e' := by
      show ((res e' o2).bind fun y' => (res e' o3).bind fun z => (h y' z).bind fun r => K (.b r) e') = _
      rw [h2 e' q3, Option.bind_some, q6, Option.bind_some, hh]
      rfl
    have q7 := k e' q3
    rw [← hC] at q7
    exact q7
section
variable {K : Option Int → KC}
theorem j_ono (k : J Γ (K none) m po) : J Γ (cX oNo K) m po := k
def cInt (o : O) (K : Int → KC) : KC := fun e => match res e o with
  | some (.int i) => K i e
  | _ => none
theorem j_osome (k : J Γ (cX f fun o => cInt o fun i => K (some i)) m po) : J Γ (cX (oSome f) K) m po := k.eq (funext fun e => by
  show bndS (bnd (f e) fun o e1 => match res e1 o with
    | some (.int i) => some (Out.ok (some i) e1)
    | _ => none) K = _
  rw [bndS_bnd]
  refine congrArg _ (funext fun a => funext fun e1 => ?_)
  unfold cInt
  split <;> rfl)
theorem j_int {i : Int} {K : Int → KC} (h : Rd Γ o (.int i)) (k : J Γ (K i) m po) : J Γ (cInt o K) m po := k.to fun e he => ⟨e, he, by
  unfold cInt
  rw [h e he]⟩
end
def cSl (o : O) (l h : Option Int) (K : O → KC) : KC := fun e => (res e o).bind fun x => (oSl x l h).bind fun z => K (.b z) e
theorem j_sl (k : J Γ (cX fa fun o => cX fl fun l => cX fh fun h => cSl o l h K) m po) : J Γ (cX (fSl fa fl fh) K) m po := k.eq (funext fun e => by
  show bndS (bnd (fa e) fun o e1 => bnd (fl e1) fun l e2 => bnd (fh e2) fun h e3 => (res e3 o).bind fun x => (oSl x l h).bind fun z => some (Out.ok (O.b z) e3)) K = _
  rw [bndS_bnd]
  refine congrArg _ (funext fun _ => funext fun _ => ?_)
  rw [bndS_bnd]
  refine congrArg _ (funext fun _ => funext fun _ => ?_)
  rw [bndS_bnd]
  refine congrArg _ (funext fun _ => funext fun _ => ?_)
  rw [bndS_ob]
  refine congrArg _ (funext fun _ => ?_)
  rw [bndS_ob]
  rfl)
theorem j_slop {l h : Option Int} (h1 : Rd Γ o x) (h3 : oSl x l h = some z) (k : J Γ (K (.b z)) m po) : J Γ (cSl o l h K) m po := k.to fun e he => ⟨e, he, by
  show (res e o).bind _ = _
  rw [h1 e he, Option.bind_some, h3]
  rfl⟩
def cLr1 (o : O) (K : O → KC) : KC := fun e => match res e o with
  | some (.int j) => if rgOk 0 j = true then K (.b (.ow (rngN 0 j.toNat))) e else none
  | _ => none
theorem j_lr1 (k : J Γ (cX fa fun o => cLr1 o K) m po) : J Γ (cX (fListRg1 fa) K) m po := k.eq (funext fun e => by
  show bndS (bnd (fa e) fun o e1 => match res e1 o with
    | some (.int j) => if rgOk 0 j = true then some (Out.ok (O.b (.ow (rngN 0 j.toNat))) e1) else none
    | _ => none) K = _
  rw [bndS_bnd]
  refine congrArg _ (funext fun a => funext fun e1 => ?_)
  unfold cLr1
  split
  · split <;> rfl
  · rfl)
/-- lo, lo + 1, .. -/
def rngL (lo : Int) (n : Nat) : List Int := (List.range n).map fun (i : Nat) => lo + (i : Int)
theorem rngN_L (lo : Int) (n : Nat) : rngN lo n = (rngL lo n).map Datum.toD := by
  unfold rngN rngL
  rw [List.map_map]
  rfl
def lrg1 (j : Int) : Option (List Int) := if rgOk 0 j = true then some (rngL 0 j.toNat) else none
theorem j_lr1op {i : Int} {mk : List Int → R α} (h1 : Rd Γ o (.int i)) (k : ∀ a, J Γ (K (.b (bow (Datum.toD a)))) (mk a) po) : J Γ (cLr1 o K) (ob (lrg1 i) mk) po := j_ob fun a ha => (k a).to fun e he => ⟨e, he, by
  unfold cLr1
  unfold lrg1 at ha
  rw [h1 e he]
  dsimp only
  split at ha
  · rename_i q
    cases ha
    rw [if_pos q, rngN_L]
    rfl
  · cases ha⟩
def cScLen (o : O) (K : O → KC) : KC := fun e => match bOf e o with
  | some (.sc ns) => K (.b (.fr (.int ns.length))) e
  | _ => none
theorem j_scLen (k : J Γ (cX fa fun o => cScLen o K) m po) : J Γ (cX (fScLen fa) K) m po := k.eq (funext fun e => by
  show bndS (bnd (fa e) fun o e1 => match bOf e1 o with
    | some (.sc ns) => okD (.int ns.length) e1
    | _ => none) K = _
  rw [bndS_bnd]
  refine congrArg _ (funext fun a => funext fun e1 => ?_)
  unfold cScLen
  split <;> rfl)
theorem j_scLen2 {ns : List Int} (h : Γ[i]? = some (some (.sc ns))) (k : J Γ (K (.b (.fr (.int (ns.length : Nat))))) m po) : J Γ (cScLen (.s i) K) m po := k.to fun e he => ⟨e, he, by
  have h1 : bOf e (.s i) = some (.sc ns) := he.hold i _ h
  unfold cScLen
  rw [h1]⟩
def cScIx (o o2 : O) (K : O → KC) : KC := fun e2 => match bOf e2 o, res e2 o2 with
  | some (.sc ns), some (.int i) => (atI ns i).bind fun n => K (.b (.fr (.int n))) e2
  | _, _ => none
theorem j_scIx (k : J Γ (cX fa fun o => cX fb fun o2 => cScIx o o2 K) m po) : J Γ (cX (fScIx fa fb) K) m po := k.eq (funext fun e => by
  show bndS (bnd (fa e) fun o e1 => bnd (fb e1) fun o2 e2 => match bOf e2 o, res e2 o2 with
    | some (.sc ns), some (.int i) => (atI ns i).bind fun n => okD (.int n) e2
    | _, _ => none) K = _
  rw [bndS_bnd]
  refine congrArg _ (funext fun a => funext fun e1 => ?_)
  rw [bndS_bnd]
  refine congrArg _ (funext fun a => funext fun e1 => ?_)
  unfold cScIx
  split
  · rw [bndS_ob]
    rfl
  · rfl)
theorem j_scIx2 {ns : List Int} {j : Int} {mk : Int → R α} (h : Γ[i]? = some (some (.sc ns))) (h2 : Rd Γ o2 (.int j)) (k : ∀ a, J Γ (K (.b (.fr (.int a)))) (mk a) po) : J Γ (cScIx (.s i) o2 K) (ob (atI ns j) mk) po := j_ob fun a ha => (k a).to fun e he => ⟨e, he, by
  have h1 : bOf e (.s i) = some (.sc ns) := he.hold i _ h
  unfold cScIx
  rw [h1, h2 e he]
  dsimp only
  rw [ha]
  rfl⟩
def cChk (i : Nat) (C : KC) : KC := fun e => match at? e i with
  | some (.ow _) => C e
  | _ => none
def isL : PyData → Bool
  | .list _ => true
  | _ => false
theorem bow_l {x : PyData} (h : isL x = true) : ∃ ds, x = .list ds ∧ bow x = .ow ds := by
  cases x with
  | list ds => exact ⟨ds, rfl, rfl⟩
  | _ => cases h
theorem j_chk (h : Γ[i]? = some (some (.o x))) (hl : isL x = true) (k : J Γ C m po) : J Γ (cChk i C) m po := k.to fun e he => ⟨e, he, by
  obtain ⟨ds, rfl, hb⟩ := bow_l hl
  unfold cChk
  rw [he.own h, hb]⟩
def cMth (i : Nat) (g : List PyData → List PyData → Option (B × List PyData)) (as : List PyData) (K : O → KC) : KC := fun e => match at? e i with
  | some (.ow ds) => (g ds as).bind fun p => K (.b p.1) (e.set i (some (.ow p.2)))
  | _ => none
theorem j_mth {g : List PyData → List PyData → Option (B × List PyData)} (k : J Γ (cChk i (cX fd fun as => cMth i g as K)) m po) : J Γ (cX (fMth i g fd) K) m po := k.eq (funext fun e => by
  show bndS (match at? e i with
    | some (.ow _) => bnd (fd e) fun as e1 => match at? e1 i with
      | some (.ow ds) => (g ds as).bind fun p => some (Out.ok (.b p.1) (e1.set i (some (.ow p.2))))
      | _ => none
    | _ => none) K = _
  unfold cChk
  split
  · rw [bndS_bnd]
    refine congrArg _ (funext fun a => funext fun e1 => ?_)
    unfold cMth
    split
    · rw [bndS_ob]
      rfl
    · rfl
  · rfl)
theorem j_mthop {g : List PyData → List PyData → Option (B × List PyData)} {as ds es : List PyData} {y : PyData} (h : Γ[i]? = some (some (.o (.list ds)))) (hg : g ds as = some (z, es)) (hy : PyData.list es = y) (k : J (Γ.set i (some (.o y))) (K (.b z)) m po) : J Γ (cMth i g as K) m po := k.to fun e he => ⟨e.set i (some (.ow es)), by
  have := he.set (i := i) (s := .o y) (b := some (.ow es)) (by rw [← hy]; rfl)
  exact this, by
  unfold cMth
  rw [he.own h]
  show ((g ds as).bind fun p => K (.b p.1) (e.set i (some (.ow p.2)))) = _
  rw [hg]
  rfl⟩
theorem j_mthopR {g : List PyData → List PyData → Option (B × List PyData)} {as ds : List PyData} {r : Option β} {z : β → B} {es : β → List PyData} {y : β → PyData} {mk : β → R α} (h : Γ[i]? = some (some (.o (.list ds)))) (hg : ∀ a, r = some a → g ds as = some (z a, es a)) (hy : ∀ a, PyData.list (es a) = y a) (k : ∀ a, J (Γ.set i (some (.o (y a)))) (K (.b (z a))) (mk a) po) : J Γ (cMth i g as K) (ob r mk) po := j_ob fun a ha => j_mthop h (hg a ha) (hy a) (k a)
/-- what a def tells, by its mirror -/
def FnS (F : Fn) (bs : List B) (m : R α) (rv : α → Sl) (ch : α → List (Nat × Sl)) : Prop := match m with
  | .no => True
  | .ok a => ∃ b e, F bs = some (.ret b e) ∧ (rv a).ok (some b) ∧ ∀ p ∈ ch a, p.2.ok (at? e p.1)
  | .ex c => ∃ e, F bs = some (.ex c e)
inductive All2 {A B : Type} (r : A → B → Prop) : List A → List B → Prop where
  | nil : All2 r [] []
  | cons {a : A} {b : B} {as : List A} {bs : List B} : r a b → All2 r as bs → All2 r (a :: as) (b :: bs)
theorem All2.length_eq {A B : Type} {r : A → B → Prop} {as : List A} {bs : List B} (h : All2 r as bs) : as.length = bs.length := by
  induction h with
  | nil => rfl
  | cons _ _ ih => rw [List.length_cons, List.length_cons, ih]
theorem cov_args {bs : List B} {ss : List Sl} (n : Nat) (h : All2 (fun (s : Sl) b => s.ok (some b)) ss bs) : Cov (ss.map some ++ List.replicate n none) (bs.map some ++ List.replicate n none) := by
  refine ⟨?_, fun i s hi => ?_⟩
  · have := h.length_eq
    rw [List.length_append, List.length_append, List.length_map, List.length_map, List.length_replicate, List.length_replicate, this]
  · induction h generalizing i with
    | nil =>
      rw [List.map_nil, List.nil_append, List.getElem?_replicate] at hi
      split at hi <;> cases hi
    | cons h1 h2 ih =>
      cases i with
      | zero => cases hi; exact h1
      | succ i => exact ih i hi
theorem fn_mk {bs : List B} {ss : List Sl} {g : FS} {N : Nat} {rv : α → Sl} {ch : α → List (Nat × Sl)} {Γe : α → Ctx} (hN : N - bs.length = n) (hs : All2 (fun (s : Sl) b => s.ok (some b)) ss bs) (hΓ : ss.map some ++ List.replicate n none = Γ) (h : J Γ g m fun a => .rt (rv a) (Γe a)) (hc : ∀ a, ∀ p ∈ ch a, (Γe a)[p.1]? = some (some p.2)) : FnS (runF g N) bs m rv ch := by
  have h1 := h _ (hΓ ▸ cov_args n hs)
  unfold FnS
  unfold runF
  rw [hN]
  cases m with
  | no => trivial
  | ex c =>
    obtain ⟨e, h2⟩ := h1
    rw [h2]
    exact ⟨e, rfl⟩
  | ok a =>
    obtain ⟨w, h2, b, e, rfl, h3, h4⟩ := h1
    rw [h2]
    exact ⟨b, e, rfl, h3, fun p hp => h4.hold _ _ (hc a p hp)⟩
/-- a def that tells None -/
theorem fn_mkN {bs : List B} {ss : List Sl} {g : FS} {N : Nat} {ch : α → List (Nat × Sl)} {Γe : α → Ctx} (hN : N - bs.length = n) (hs : All2 (fun (s : Sl) b => s.ok (some b)) ss bs) (hΓ : ss.map some ++ List.replicate n none = Γ) (h : J Γ g m fun a => .fn (Γe a)) (hc : ∀ a, ∀ p ∈ ch a, (Γe a)[p.1]? = some (some p.2)) : FnS (runF g N) bs m (fun _ => .d .none) ch := by
  have h1 := h _ (hΓ ▸ cov_args n hs)
  unfold FnS
  unfold runF
  rw [hN]
  cases m with
  | no => trivial
  | ex c =>
    obtain ⟨e, h2⟩ := h1
    rw [h2]
    exact ⟨e, rfl⟩
  | ok a =>
    obtain ⟨w, h2, e, h5, h4⟩ := h1
    rw [h2]
    rcases h5 with rfl | rfl
    · exact ⟨_, e, rfl, rfl, fun p hp => h4.hold _ _ (hc a p hp)⟩
    · exact ⟨_, e, rfl, rfl, fun p hp => h4.hold _ _ (hc a p hp)⟩
def cCall (F : Fn) (n : Nat) (mi : List (Nat × Nat)) (os : List O) (K : O → KC) : KC := fun e1 => if (slotsOk mi 0 os && miOk mi os && os.length == n) = true then (bindO e1 os).bind fun bs => match F bs with
  | none => none
  | some (.ret b e2) => K (.b b) (putBack e2 mi e1)
  | some (.ex c e2) => some (.ex c (putBack e2 mi e1)) else none
theorem j_call (k : J Γ (cX r fun os => cCall F n mi os K) m po) : J Γ (cX (fCall F n mi r) K) m po := k.eq (funext fun e => by
  show bndS (bnd (r e) fun os e1 => if (slotsOk mi 0 os && miOk mi os && os.length == n) = true then (bindO e1 os).bind fun bs => match F bs with
    | none => none
    | some (.ret b e2) => some (Out.ok (.b b) (putBack e2 mi e1))
    | some (.ex c e2) => some (Out.ex c (putBack e2 mi e1)) else none) K = _
  rw [bndS_bnd]
  refine congrArg _ (funext fun a => funext fun e1 => ?_)
  unfold cCall
  split
  · rw [bndS_ob]
    refine congrArg _ (funext fun bs => ?_)
    split <;> simp_all [bndS]
  · rfl)
/-- operands handed in -/
def BdA (Γ : Ctx) (os : List O) (bs : List B) : Prop := ∀ e, Cov Γ e → bindO e os = some bs
theorem ba_nil : BdA Γ [] [] := fun _ _ => rfl
theorem ba_b {os : List O} {bs : List B} (t : BdA Γ os bs) : BdA Γ (.b b :: os) (b :: bs) := fun e he => by
  show (bindO e os).bind _ = _
  rw [t e he]
  rfl
theorem ba_o {os : List O} {bs : List B} (h : Γ[i]? = some (some (.o x))) (t : BdA Γ os bs) : BdA Γ (.s i :: os) (bow x :: bs) := fun e he => by
  show (at? e i).bind _ = _
  rw [he.own h, Option.bind_some, t e he]
  rfl
theorem ba_rs {os : List O} {bs : List B} {k : Nat} (h : Γ[i]? = some (some (.rs k x))) (t : BdA Γ os bs) : BdA Γ (.s i :: os) (.rs k x :: bs) := fun e he => by
  have : at? e i = some (.rs k x) := he.hold i _ h
  show (at? e i).bind _ = _
  rw [this, Option.bind_some, t e he]
  rfl
/-- the context behind a call -/
def back (mi : List (Nat × Nat)) (ch : List (Nat × Sl)) (Γ : Ctx) : Ctx := mi.foldl (fun Γ p => Γ.set p.2 ((ch.find? fun q => q.1 == p.1).map (·.2))) Γ
theorem Cov.back {ch : List (Nat × Sl)} {e2 : VL.Env} (hc : ∀ p ∈ ch, p.2.ok (at? e2 p.1)) : ∀ (mi : List (Nat × Nat)) {Γ : Ctx} {e : VL.Env}, Cov Γ e → Cov (back mi ch Γ) (putBack e2 mi e)
  | [], _, _, h => h
  | (j, i) :: mi, Γ, e, h => by
    show Cov (TM.back mi ch (Γ.set i ((ch.find? fun q => q.1 == j).map (·.2)))) (putBack e2 mi (e.set i (at? e2 j)))
    refine Cov.back hc mi ?_
    cases q : ch.find? fun q => q.1 == j with
    | none => exact h.drop i _
    | some p =>
      have h1 := List.find?_some q
      have h2 := hc p (List.mem_of_find?_eq_some q)
      rw [beq_iff_eq] at h1
      rw [h1] at h2
      exact h.set h2
theorem j_callG {os : List O} {bs : List B} {m1 : R β} {rv : β → Sl} {ch : β → List (Nat × Sl)} {mk : β → R α} (h0 : (slotsOk mi 0 os && miOk mi os && os.length == n) = true) (h1 : BdA Γ os bs) (hF : FnS F bs m1 rv ch) (k : ∀ a b, (rv a).ok (some b) → J (TM.back mi (ch a) Γ) (K (.b b)) (mk a) po) : J Γ (cCall F n mi os K) (m1.bind mk) po := fun e he => by
  have hC : cCall F n mi os K e = match F bs with
    | none => none
    | some (.ret b e2) => K (.b b) (putBack e2 mi e)
    | some (.ex c e2) => some (.ex c (putBack e2 mi e)) := by
    unfold cCall
    rw [if_pos h0, h1 e he]
    rfl
  rw [hC]
  unfold FnS at hF
  cases m1 with
  | no => trivial
  | ex c =>
    obtain ⟨e2, q⟩ := hF
    rw [q]
    exact ⟨_, rfl⟩
  | ok a =>
    obtain ⟨b, e2, q, q2, q3⟩ := hF
    rw [q]
    exact k a b q2 _ (he.back q3 mi)
/-- not a list, not a dict -/
def solid : PyData → Bool
  | .list _ => false
  | .dict _ => false
  | _ => true
theorem solid_fr {b : B} (h : b.dat = some x) (hs : solid x = true) : b = .fr x := by
  cases b with
  | fr d => cases h; rfl
  | ow ds => cases h; cases hs
  | od ds => cases h; cases hs
  | ex c => cases h
  | rs k d => cases h
  | tr t => cases h
  | sc ns => cases h
/-- an answer that is no list; one that is new; any -/
theorem j_callF {os : List O} {bs : List B} {m1 : R β} {xr : β → PyData} {ch : β → List (Nat × Sl)} {mk : β → R α} {Γb : β → Ctx} (h0 : (slotsOk mi 0 os && miOk mi os && os.length == n) = true) (h1 : BdA Γ os bs) (hF : FnS F bs m1 (fun a => .d (xr a)) ch) (hs : ∀ a, solid (xr a) = true) (hb : ∀ a, TM.back mi (ch a) Γ = Γb a) (k : ∀ a, J (Γb a) (K (.b (.fr (xr a)))) (mk a) po) : J Γ (cCall F n mi os K) (m1.bind mk) po :=
  j_callG h0 h1 hF fun a b h => by
    have := solid_fr (b := b) h (hs a)
    subst this
    rw [hb]
    exact k a
theorem j_callO {os : List O} {bs : List B} {m1 : R β} {xr : β → PyData} {ch : β → List (Nat × Sl)} {mk : β → R α} {Γb : β → Ctx} (h0 : (slotsOk mi 0 os && miOk mi os && os.length == n) = true) (h1 : BdA Γ os bs) (hF : FnS F bs m1 (fun a => .o (xr a)) ch) (hb : ∀ a, TM.back mi (ch a) Γ = Γb a) (k : ∀ a, J (Γb a) (K (.b (bow (xr a)))) (mk a) po) : J Γ (cCall F n mi os K) (m1.bind mk) po :=
  j_callG h0 h1 hF fun a b h => by
    have h' : some b = some (bow (xr a)) := h
    cases h'
    rw [hb]
    exact k a
theorem j_callR {os : List O} {bs : List B} {m1 : R β} {q : Nat} {xr : β → PyData} {ch : β → List (Nat × Sl)} {mk : β → R α} {Γb : β → Ctx} (h0 : (slotsOk mi 0 os && miOk mi os && os.length == n) = true) (h1 : BdA Γ os bs) (hF : FnS F bs m1 (fun a => .rs q (xr a)) ch) (hb : ∀ a, TM.back mi (ch a) Γ = Γb a) (k : ∀ a, J (Γb a) (K (.b (.rs q (xr a)))) (mk a) po) : J Γ (cCall F n mi os K) (m1.bind mk) po :=
  j_callG h0 h1 hF fun a b h => by
    have h' : some b = some (.rs q (xr a)) := h
    cases h'
    rw [hb]
    exact k a
def cCallP (F : Fn) (n : Nat) (os : List O) (K : O → KC) : KC := fun e1 => if flatO os = true then (lendO e1 os).bind fun bs => if bs.length = n then match F bs with
  | some (.ret (.fr d) _) => if isFlat d = true then K (.b (.fr d)) e1 else none
  | some (.ex c _) => some (.ex c e1)
  | _ => none else none else none
theorem j_callP (k : J Γ (cX r fun os => cCallP F n os K) m po) : J Γ (cX (fCallP F n r) K) m po := k.eq (funext fun e => by
  show bndS (bnd (r e) fun os e1 => if flatO os = true then (lendO e1 os).bind fun bs => if bs.length = n then match F bs with
    | some (.ret (.fr d) _) => if isFlat d = true then okD d e1 else none
    | some (.ex c _) => some (Out.ex c e1)
    | _ => none else none else none) K = _
  rw [bndS_bnd]
  refine congrArg _ (funext fun a => funext fun e1 => ?_)
  unfold cCallP
  split
  · rw [bndS_ob]
    refine congrArg _ (funext fun bs => ?_)
    split
    · cases F bs with
      | none => rfl
      | some q =>
        cases q with
        | ex c e => rfl
        | ret b e =>
          cases b with
          | fr d =>
            dsimp only
            split <;> rfl
          | _ => rfl
    · rfl
  · rfl)
/-- operands lent -/
def LdA (Γ : Ctx) (os : List O) (bs : List B) : Prop := ∀ e, Cov Γ e → lendO e os = some bs
theorem la_nil : LdA Γ [] [] := fun _ _ => rfl
theorem la_b {os : List O} {bs : List B} (t : LdA Γ os bs) : LdA Γ (.b b :: os) (b :: bs) := fun e he => by
  show (lendO e os).bind _ = _
  rw [t e he]
  rfl
theorem lent_dat {b : B} (h : b.dat = some x) : lent b = some (.fr x) := by
  cases b with
  | fr d => cases h; rfl
  | ow ds => cases h; rfl
  | od ds => cases h; rfl
  | ex c => cases h
  | rs k d => cases h
  | tr t => cases h
  | sc ns => cases h
theorem la_d {os : List O} {bs : List B} (h : Γ[i]? = some (some (.d x))) (t : LdA Γ os bs) : LdA Γ (.s i :: os) (.fr x :: bs) := fun e he => by
  have h1 : (at? e i).bind B.dat = some x := he.hold i _ h
  show ((at? e i).bind lent).bind _ = _
  cases q : at? e i with
  | none => rw [q] at h1; cases h1
  | some b =>
    rw [q] at h1
    rw [Option.bind_some, lent_dat h1, Option.bind_some, t e he]
    rfl
theorem j_callPop {os : List O} {bs : List B} {m1 : R β} {xr : β → PyData} {ch : β → List (Nat × Sl)} {mk : β → R α} (h0 : flatO os = true) (h1 : LdA Γ os bs) (hn : bs.length = n) (hF : FnS F bs m1 (fun a => .d (xr a)) ch) (hs : ∀ a, isFlat (xr a) = true) (k : ∀ a, J Γ (K (.b (.fr (xr a)))) (mk a) po) : J Γ (cCallP F n os K) (m1.bind mk) po := fun e he => by
  have hC : cCallP F n os K e = match F bs with
    | some (.ret (.fr d) _) => if isFlat d = true then K (.b (.fr d)) e else none
    | some (.ex c _) => some (.ex c e)
    | _ => none := by
    unfold cCallP
    rw [if_pos h0, h1 e he, Option.bind_some, if_pos hn]
  rw [hC]
  unfold FnS at hF
  cases m1 with
  | no => trivial
  | ex c =>
    obtain ⟨e2, q⟩ := hF
    rw [q]
    exact ⟨_, rfl⟩
  | ok a =>
    obtain ⟨b, e2, q, q2, q3⟩ := hF
    have hsd : solid (xr a) = true := by
      have := hs a
      revert this
      cases xr a <;> simp [isFlat, solid]
    have := solid_fr (b := b) q2 hsd
    subst this
    rw [q]
    dsimp only
    rw [if_pos (hs a)]
    exact k a e he
end TM
set_option maxRecDepth 100000
namespace TM
open PySem L2 VL PySem.W PySem.SeqAt
variable {Γ Γ' Γ1 Γ2 : Ctx} {α β σ τ γ υ : Type} {m : R α} {po : α → PO} {K : O → KC} {C : KC} {o o1 o2 o3 : O} {x y : PyData} {b z : B} {i j n : Nat} {f fa fb fc fx fy fv : FE} {rest A : FS} {op : PyData → PyData → Option B} {fd : FD} {fi : FI} {t : FT} {l : List Nat} {a : α}
theorem seq_bndS {q : Option (Out β)} {k : β → VL.Env → Option SO} {rest : FS} : (match bndS q k with
  | some (.nx e1) => rest e1
  | r => r) = bndS q fun a e => match k a e with
    | some (.nx e1) => rest e1
    | r => r := by
  cases q with
  | none => rfl
  | some o => cases o <;> rfl
theorem seq_ob {q : Option β} {k : β → Option SO} {rest : FS} : (match q.bind k with
  | some (.nx e1) => rest e1
  | r => r) = q.bind fun a => match k a with
    | some (.nx e1) => rest e1
    | r => r := by cases q <;> rfl
def thn (q : Option SO) (rest : FS) : Option SO := match q with
  | some (.nx e1) => rest e1
  | r => r
theorem thn_bndS {q : Option (Out β)} {k : β → VL.Env → Option SO} : thn (bndS q k) rest = bndS q fun a e => thn (k a e) rest := by
  cases q with
  | none => rfl
  | some o => cases o <;> rfl
theorem thn_ob {q : Option β} {k : β → Option SO} : thn (q.bind k) rest = q.bind fun a => thn (k a) rest := by cases q <;> rfl
def cSet (i : Nat) (b : B) (rest : FS) : KC := fun e => rest (e.set i (some b))
theorem j_asg (k : J Γ (cX f fun o => cFzB o fun b => cSet i b rest) m po) : J Γ (sSeq (sAsg i f) rest) m po := k.eq (funext fun e => by
  show (match bndS (f e) fun o e1 => (fzB e1 o).bind fun p => some (SO.nx (p.2.set i (some p.1))) with
    | some (.nx e1) => rest e1
    | r => r) = _
  rw [seq_bndS]
  refine congrArg _ (funext fun a => funext fun e1 => ?_)
  rw [seq_ob]
  rfl)
theorem j_setD (k : J (Γ.set i (some (.d x))) rest m po) : J Γ (cSet i (.fr x) rest) m po := k.to fun e he => ⟨_, he.set (s := .d x) (b := some (.fr x)) rfl, rfl⟩
theorem j_setO (k : J (Γ.set i (some (.o x))) rest m po) : J Γ (cSet i (bow x) rest) m po := k.to fun e he => ⟨_, he.set (s := .o x) (b := some (bow x)) rfl, rfl⟩
theorem j_setR {q : Nat} (k : J (Γ.set i (some (.rs q x))) rest m po) : J Γ (cSet i (.rs q x) rest) m po := k.to fun e he => ⟨_, he.set (s := .rs q x) (b := some (.rs q x)) rfl, rfl⟩
def cOwn (i : Nat) (o : O) (rest : FS) : KC := fun e => match o with
  | .b b => rest (e.set i (some b))
  | .s _ => none
theorem j_own (k : J Γ (cX f fun o => cOwn i o rest) m po) : J Γ (sSeq (sOwn i f) rest) m po := k.eq (funext fun e => by
  show (match bndS (f e) fun o e1 => match o with
    | .b b => some (SO.nx (e1.set i (some b)))
    | .s _ => none with
    | some (.nx e1) => rest e1
    | r => r) = _
  rw [seq_bndS]
  refine congrArg _ (funext fun a => funext fun e1 => ?_)
  cases a <;> rfl)
theorem j_ownb (k : J Γ (cSet i b rest) m po) : J Γ (cOwn i (.b b) rest) m po := k
def cRet (o : O) : KC := fun e => match o with
  | .b b => some (.rt b e)
  | .s i => (at? e i).bind fun b => some (.rt b (e.set i none))
theorem j_ret (k : J Γ (cX f cRet) m po) : J Γ (sSeq (sRetO f) rest) m po := k.eq (funext fun e => by
  show (match bndS (f e) cRet with
    | some (.nx e1) => rest e1
    | r => r) = _
  rw [seq_bndS]
  refine congrArg _ (funext fun a => funext fun e1 => ?_)
  unfold cRet
  cases a with
  | b b => rfl
  | s i =>
    dsimp only
    rw [seq_ob])
theorem j_retb {s : Sl} (h : s.ok (some b)) (hr : restr l Γ = Γ') (hp : po a = .rt s Γ') : J Γ (cRet (.b b)) (.ok a) po := fun e he => ⟨_, rfl, by
  rw [hp]
  exact ⟨_, _, rfl, h, he.of hr⟩⟩
theorem sl_d : (Sl.d x).ok (some (.fr x)) := rfl
theorem sl_o : (Sl.o x).ok (some (bow x)) := rfl
theorem sl_id {s : Sl} {b : Option B} (h : s.ok b) : s.ok b := h
theorem j_rets {s s' : Sl} (h : Γ[i]? = some (some s')) (hs : ∀ b, s'.ok b → s.ok b) (hr : restr l (Γ.set i none) = Γ') (hp : po a = .rt s Γ') : J Γ (cRet (.s i)) (.ok a) po := fun e he => by
  have h1 := he.hold i _ h
  obtain ⟨b, hb⟩ : ∃ b, at? e i = some b := by
    cases q : at? e i with
    | some b => exact ⟨b, rfl⟩
    | none => rw [q] at h1; cases s' <;> cases h1
  refine ⟨.rt b (e.set i none), ?_, ?_⟩
  · show (at? e i).bind _ = _
    rw [hb]
    rfl
  · rw [hp]
    exact ⟨b, _, rfl, hs _ (hb ▸ h1), (he.drop i none).of hr⟩
theorem j_seqRaise {c : Str} : J Γ (sSeq (sRaise c) rest) (.ex c) po := fun e _ => ⟨e, rfl⟩
theorem j_nil (hr : restr l Γ = Γ') (hp : po a = .nx Γ') : J Γ sNil (.ok a) po := fun e he => ⟨_, rfl, by
  rw [hp]
  exact ⟨_, rfl, he.of hr⟩⟩
theorem j_nilF (hr : restr l Γ = Γ') (hp : po a = .fn Γ') : J Γ sNil (.ok a) po := fun e he => ⟨_, rfl, by
  rw [hp]
  exact ⟨_, .inl rfl, he.of hr⟩⟩
theorem seq_nil : sSeq A sNil = A := funext fun e => by
  show (match A e with
    | some (.nx e1) => some (SO.nx e1)
    | r => r) = _
  split
  · rename_i e1 q; rw [q]
  · rfl
theorem j_last (k : J Γ (sSeq A sNil) m po) : J Γ A m po := k.eq seq_nil.symm
theorem j_seqNil (k : J Γ rest m po) : J Γ (sSeq sNil rest) m po := k
theorem j_assoc {B' : FS} (k : J Γ (sSeq A (sSeq B' rest)) m po) : J Γ (sSeq (sSeq A B') rest) m po := k.eq (funext fun e => by
  show (match (match A e with
      | some (.nx e1) => B' e1
      | r => r) with
    | some (.nx e1) => rest e1
    | r => r) = match A e with
      | some (.nx e1) => (match B' e1 with
        | some (.nx e2) => rest e2
        | r => r)
      | r => r
  cases A e with
  | none => rfl
  | some w => cases w <;> rfl)
theorem j_expr (k : J Γ (cX f fun _ => rest) m po) : J Γ (sSeq (sExpr f) rest) m po := k.eq (funext fun e => by
  show (match bndS (f e) fun _ e1 => some (SO.nx e1) with
    | some (.nx e1) => rest e1
    | r => r) = _
  rw [seq_bndS]
  rfl)
inductive Fl (σ γ : Type) where
  | nx (s : σ)
  | bk (s : σ)
  | rt (a : γ)
theorem j_seq {m1 : R σ} {Γs : σ → Ctx} {mk : σ → R α} (h : J Γ A m1 fun s => .nx (Γs s)) (k : ∀ s, J (Γs s) rest (mk s) po) : J Γ (sSeq A rest) (m1.bind mk) po := fun e he => by
  have h1 := h e he
  cases m1 with
  | no => trivial
  | ex c =>
    obtain ⟨e', h2⟩ := h1
    refine ⟨e', ?_⟩
    show (match A e with
      | some (.nx e1) => rest e1
      | r => r) = _
    rw [h2]
  | ok s =>
    obtain ⟨w, h2, e', rfl, h3⟩ := h1
    have h4 := k s e' h3
    have hC : sSeq A rest e = rest e' := by
      show (match A e with
        | some (.nx e1) => rest e1
        | r => r) = _
      rw [h2]
    rw [hC]
    exact h4
/-- a part that may end all -/
def poF (Γs : σ → Ctx) (po : α → PO) : Fl σ α → PO
  | .nx s => .nx (Γs s)
  | .bk s => .bk (Γs s)
  | .rt a => po a
def Fl.out (mk : σ → R α) : Fl σ α → R α
  | .nx s => mk s
  | .bk _ => .no
  | .rt a => .ok a
@[simp] theorem out_nx {mk : σ → R α} {s : σ} : Fl.out mk (.nx s : Fl σ α) = mk s := rfl
@[simp] theorem out_rt {mk : σ → R α} {a : α} : Fl.out mk (.rt a : Fl σ α) = .ok a := rfl
/-- an end that is no next -/
def PO.fin : PO → Bool
  | .nx _ => false
  | .fn _ => false
  | _ => true
theorem j_seqF {m1 : R (Fl σ α)} {Γs : σ → Ctx} {mk : σ → R α} (hf : ∀ a, (po a).fin = true) (h : J Γ A m1 (poF Γs po)) (k : ∀ s, J (Γs s) rest (mk s) po) : J Γ (sSeq A rest) (m1.bind (Fl.out mk)) po := fun e he => by
  have h1 := h e he
  cases m1 with
  | no => trivial
  | ex c =>
    obtain ⟨e', h2⟩ := h1
    refine ⟨e', ?_⟩
    show (match A e with
      | some (.nx e1) => rest e1
      | r => r) = _
    rw [h2]
  | ok r =>
    cases r with
    | bk s => trivial
    | nx s =>
      obtain ⟨w, h2, e', rfl, h3⟩ := h1
      have h4 := k s e' h3
      have hC : sSeq A rest e = rest e' := by
        show (match A e with
          | some (.nx e1) => rest e1
          | r => r) = _
        rw [h2]
      rw [hC]
      exact h4
    | rt a =>
      obtain ⟨w, h2, h3⟩ := h1
      have h3' : (po a).ok w := h3
      refine ⟨w, ?_, h3'⟩
      show (match A e with
        | some (.nx e1) => rest e1
        | r => r) = _
      rw [h2]
      have hfa := hf a
      revert h3' hfa
      cases po a with
      | nx Γ => intro _ h; cases h
      | fn Γ => intro _ h; cases h
      | bk Γ => rintro ⟨e', rfl, _⟩ _; rfl
      | rt s Γ => rintro ⟨b, e', rfl, _⟩ _; rfl
/-- in a loop's block: a part that may end the def -/
def Fl.outF (mk : σ → R (Fl β γ)) : Fl σ γ → R (Fl β γ)
  | .nx s => mk s
  | .bk _ => .no
  | .rt a => .ok (.rt a)
@[simp] theorem outF_nx {mk : σ → R (Fl β γ)} {s : σ} : Fl.outF mk (.nx s : Fl σ γ) = mk s := rfl
@[simp] theorem outF_rt {mk : σ → R (Fl β γ)} {a : γ} : Fl.outF mk (.rt a : Fl σ γ) = .ok (.rt a) := rfl
theorem j_seqFF {m1 : R (Fl σ γ)} {Γs : σ → Ctx} {Γt : β → Ctx} {pg : γ → PO} {mk : σ → R (Fl β γ)} (hf : ∀ a, (pg a).fin = true) (h : J Γ A m1 (poF Γs pg)) (k : ∀ s, J (Γs s) rest (mk s) (poF Γt pg)) : J Γ (sSeq A rest) (m1.bind (Fl.outF mk)) (poF Γt pg) := fun e he => by
  have h1 := h e he
  cases m1 with
  | no => trivial
  | ex c =>
    obtain ⟨e', h2⟩ := h1
    refine ⟨e', ?_⟩
    show (match A e with
      | some (.nx e1) => rest e1
      | r => r) = _
    rw [h2]
  | ok r =>
    cases r with
    | bk s => trivial
    | nx s =>
      obtain ⟨w, h2, e', rfl, h3⟩ := h1
      have h4 := k s e' h3
      have hC : sSeq A rest e = rest e' := by
        show (match A e with
          | some (.nx e1) => rest e1
          | r => r) = _
        rw [h2]
      rw [hC]
      exact h4
    | rt a =>
      obtain ⟨w, h2, h3⟩ := h1
      have h3' : (pg a).ok w := h3
      refine ⟨w, ?_, h3'⟩
      show (match A e with
        | some (.nx e1) => rest e1
        | r => r) = _
      rw [h2]
      have hfa := hf a
      revert h3' hfa
      cases pg a with
      | nx Γ => intro _ h; cases h
      | fn Γ => intro _ h; cases h
      | bk Γ => rintro ⟨e', rfl, _⟩ _; rfl
      | rt s Γ => rintro ⟨b, e', rfl, _⟩ _; rfl
theorem j_if1 {B' : FS} (k : J Γ (cX t fun b => match b with
  | true => A
  | false => B') m po) : J Γ (sIf t A B') m po := k.eq (funext fun e => by
  show bndS (t e) (fun b e1 => match b with
    | true => A e1
    | false => B' e1) = _
  refine congrArg _ (funext fun a => funext fun e1 => ?_)
  cases a <;> rfl)
theorem j_if {B' : FS} (k : J Γ (cX t fun b => match b with
  | true => sSeq A rest
  | false => sSeq B' rest) m po) : J Γ (sSeq (sIf t A B') rest) m po := k.eq (funext fun e => by
  show (match bndS (t e) (fun b e1 => match b with
    | true => A e1
    | false => B' e1) with
    | some (.nx e1) => rest e1
    | r => r) = _
  rw [seq_bndS]
  refine congrArg _ (funext fun a => funext fun e1 => ?_)
  cases a <;> rfl)
def cTgt (g : FG) (d : PyData) (C : KC) : KC := fun e => match g d e with
  | none => none
  | some e1 => C e1
theorem j_gN (k : J (Γ.set i (some (.d x))) C m po) : J Γ (cTgt (gN i) x C) m po := k.to fun e he => ⟨_, he.set (s := .d x) (b := some (.fr x)) rfl, rfl⟩
theorem j_gT2 (k : J ((Γ.set i (some (.d x))).set j (some (.d y))) C m po) : J Γ (cTgt (gT2 i j) (.tuple [x, y]) C) m po := k.to fun e he => ⟨_, (he.set (s := .d x) (b := some (.fr x)) rfl).set (s := .d y) (b := some (.fr y)) rfl, rfl⟩
def deadOk : List Nat → Ctx → Bool
  | [], _ => true
  | i :: is, Γ => (match Γ[i]? with
    | some none => true
    | none => true
    | _ => false) && deadOk is Γ
theorem Cov.forget : ∀ (dead : List Nat) {e : VL.Env}, deadOk dead Γ = true → Cov Γ e → Cov Γ (VL.forget dead e)
  | [], _, _, h => h
  | i :: is, e, hd, h => by
    show Cov Γ (VL.forget is (e.set i none))
    have hd' : ((match Γ[i]? with
      | some none => true
      | none => true
      | _ => false) && deadOk is Γ) = true := hd
    rw [Bool.and_eq_true] at hd'
    refine Cov.forget is hd'.2 ?_
    refine ⟨by rw [List.length_set, h.len], fun j s hj => ?_⟩
    by_cases q : i = j
    · subst q
      rw [hj] at hd'
      cases hd'.1
    · rw [at_set_ne q]
      exact h.hold j s hj
def foldM {τ σ : Type} (mb : σ → τ → R σ) : List τ → σ → R σ
  | [], s => .ok s
  | x :: xs, s => (mb s x).bind (foldM mb xs)
theorem j_forL {g : FG} {body : FS} {dead : List Nat} {D : τ → PyData} {Γs : σ → Ctx} {mb : σ → τ → R σ} (hd : ∀ s, deadOk dead (Γs s) = true) (hb : ∀ s x, J (Γs s) (cTgt g (D x) body) (mb s x) fun s' => .nx (Γs s')) : ∀ (xs : List τ) (s : σ), J (Γs s) (sForL g body dead (xs.map D)) (foldM mb xs s) fun s => .nx (Γs s)
  | [], s => fun e he => ⟨_, rfl, _, rfl, he.forget dead (hd s)⟩
  | x :: xs, s => fun e he => by
    have h1 := hb s x e he
    have hC : sForL g body dead ((x :: xs).map D) e = match cTgt g (D x) body e with
      | some (.nx e2) => sForL g body dead (xs.map D) (forget dead e2)
      | some (.ct e2) => sForL g body dead (xs.map D) (forget dead e2)
      | some (.bk e2) => some (.nx (forget dead e2))
      | some (.rt b e2) => some (.rt b e2)
      | some (.ex c e2) => some (.ex c e2)
      | none => none := by
      show (match g (D x) e with
        | none => none
        | some e1 => _) = _
      unfold cTgt
      cases g (D x) e <;> rfl
    rw [hC]
    unfold foldM
    cases q : mb s x with
    | no => trivial
    | ex c =>
      rw [q] at h1
      obtain ⟨e', h2⟩ := h1
      rw [h2]
      exact ⟨e', rfl⟩
    | ok s' =>
      rw [q] at h1
      obtain ⟨w, h2, e', rfl, h3⟩ := h1
      rw [h2]
      exact j_forL hd hb xs s' _ (h3.forget dead (hd s'))
theorem j_for {g : FG} {body : FS} {dead : List Nat} {xs : List τ} {D : τ → PyData} {Γs : σ → Ctx} {mb : σ → τ → R σ} (s0 : σ) (h0 : restr l Γ = Γs s0) (hd : ∀ s, deadOk dead (Γs s) = true) (hb : ∀ s x, J (Γs s) (cTgt g (D x) body) (mb s x) fun s' => .nx (Γs s')) : J Γ (sForL g body dead (xs.map D)) (foldM mb xs s0) fun s => .nx (Γs s) := fun e he => j_forL hd hb xs s0 e (he.of h0)
theorem j_sFor {g : FG} {body : FS} {dead : List Nat} (k : J Γ (cX fi fun ds => sForL g body dead ds) m po) : J Γ (sFor fi g body dead) m po := k
/-- with ends within -/
def loopM {τ σ γ : Type} (mb : σ → τ → R (Fl σ γ)) : List τ → σ → R (Fl σ γ)
  | [], s => .ok (.nx s)
  | x :: xs, s => (mb s x).bind fun r => match r with
    | .nx s => loopM mb xs s
    | .bk s => .ok (.nx s)
    | .rt a => .ok (.rt a)
theorem j_loopL {g : FG} {body : FS} {dead : List Nat} {D : τ → PyData} {Γs : σ → Ctx} {mb : σ → τ → R (Fl σ α)} (hf : ∀ a, ∃ s Γ', po a = .rt s Γ') (hd : ∀ s, deadOk dead (Γs s) = true) (hb : ∀ s x, J (Γs s) (cTgt g (D x) body) (mb s x) (poF Γs po)) : ∀ (xs : List τ) (s : σ), J (Γs s) (sForL g body dead (xs.map D)) (loopM mb xs s) (poF Γs po)
  | [], s => fun e he => ⟨_, rfl, _, rfl, he.forget dead (hd s)⟩
  | x :: xs, s => fun e he => by
    have h1 := hb s x e he
    have hC : sForL g body dead ((x :: xs).map D) e = match cTgt g (D x) body e with
      | some (.nx e2) => sForL g body dead (xs.map D) (forget dead e2)
      | some (.ct e2) => sForL g body dead (xs.map D) (forget dead e2)
      | some (.bk e2) => some (.nx (forget dead e2))
      | some (.rt b e2) => some (.rt b e2)
      | some (.ex c e2) => some (.ex c e2)
      | none => none := by
      show (match g (D x) e with
        | none => none
        | some e1 => _) = _
      unfold cTgt
      cases g (D x) e <;> rfl
    rw [hC]
    unfold loopM
    cases q : mb s x with
    | no => trivial
    | ex c =>
      rw [q] at h1
      obtain ⟨e', h2⟩ := h1
      rw [h2]
      exact ⟨e', rfl⟩
    | ok r =>
      rw [q] at h1
      cases r with
      | nx s' =>
        obtain ⟨w, h2, e', rfl, h3⟩ := h1
        rw [h2]
        exact j_loopL hf hd hb xs s' _ (h3.forget dead (hd s'))
      | bk s' =>
        obtain ⟨w, h2, e', rfl, h3⟩ := h1
        rw [h2]
        exact ⟨_, rfl, _, rfl, h3.forget dead (hd s')⟩
      | rt a =>
        obtain ⟨w, h2, h3⟩ := h1
        rw [h2]
        have h3' : (po a).ok w := h3
        obtain ⟨s1, Γ1, hp⟩ := hf a
        have h4 := h3'
        rw [hp] at h4
        obtain ⟨b, e', rfl, _⟩ := h4
        exact ⟨_, rfl, h3'⟩
theorem j_loop {g : FG} {body : FS} {dead : List Nat} {xs : List τ} {D : τ → PyData} {Γs : σ → Ctx} {mb : σ → τ → R (Fl σ α)} (s0 : σ) (h0 : restr l Γ = Γs s0) (hf : ∀ a, ∃ s Γ', po a = .rt s Γ') (hd : ∀ s, deadOk dead (Γs s) = true) (hb : ∀ s x, J (Γs s) (cTgt g (D x) body) (mb s x) (poF Γs po)) : J Γ (sForL g body dead (xs.map D)) (loopM mb xs s0) (poF Γs po) := fun e he => j_loopL hf hd hb xs s0 e (he.of h0)
end TM
set_option maxRecDepth 100000
namespace TM
open PySem L2 VL PySem.W PySem.SeqAt
variable {Γ Γ' Γ1 Γ2 : Ctx} {α β σ τ γ υ : Type} {m : R α} {po : α → PO} {K : O → KC} {C : KC} {o o1 o2 o3 : O} {x y : PyData} {b z : B} {i j n : Nat} {f fa fb fc fx fy fv : FE} {rest A : FS} {op : PyData → PyData → Option B} {fd : FD} {fi : FI} {t : FT} {l : List Nat} {a : α}
/-- a value alone -/
def kF : O → KC := fun o => cFz o fun d e => some (.rt (.fr d) e)
theorem j_kf (h : Fz Γ o x Γ1) {a : α} (hr : restr l Γ1 = Γ') (hp : po a = .rt (.d x) Γ') : J Γ (kF o) (.ok a) po := fun e he => by
  obtain ⟨e', h1, h2⟩ := h e he
  refine ⟨.rt (.fr x) e', ?_, ?_⟩
  · show (fz e o).bind _ = _
    rw [h1]
    rfl
  · rw [hp]
    exact ⟨_, _, rfl, rfl, h2.of hr⟩
/-- what an expression's kF tells -/
theorem kF_of {q : Option (Out O)} {b : B} {e' : VL.Env} (h : bndS q kF = some (.rt b e')) : ∃ o e1 d, q = some (.ok o e1) ∧ fz e1 o = some (d, e') ∧ b = .fr d := by
  cases q with
  | none => cases h
  | some r =>
    cases r with
    | ex c e1 => cases h
    | ok o e1 =>
      have h' : ((fz e1 o).bind fun p => some (SO.rt (.fr p.1) p.2)) = some (.rt b e') := h
      cases q2 : fz e1 o with
      | none => rw [q2] at h'; cases h'
      | some p =>
        rw [q2] at h'
        obtain ⟨d, e2⟩ := p
        cases h'
        exact ⟨o, e1, d, rfl, q2, rfl⟩
theorem kF_nx {q : Option (Out O)} {e' : VL.Env} (h : bndS q kF = some (.nx e')) : False := by
  cases q with
  | none => cases h
  | some r =>
    cases r with
    | ex c e1 => cases h
    | ok o e1 =>
      have h' : ((fz e1 o).bind fun p => some (SO.rt (.fr p.1) p.2)) = some (.nx e') := h
      cases q2 : fz e1 o with
      | none => rw [q2] at h'; cases h'
      | some p => rw [q2] at h'; cases h'
def kSkip : KC := fun e => some (.nx e)
theorem j_skip {a : α} (hr : restr l Γ = Γ') (hp : po a = .nx Γ') : J Γ kSkip (.ok a) po := fun e he => ⟨_, rfl, by
  rw [hp]
  exact ⟨_, rfl, he.of hr⟩⟩
def cItem (g : FG) (d : PyData) (t : FT) (f : FE) : KC := cTgt g d (cX t fun b => match b with
  | true => cX f kF
  | false => kSkip)
/-- an item's end: taken, or left out -/
def poI (E : υ → PyData) (Γs : σ → Ctx) : Option υ × σ → PO
  | (some y, s) => .rt (.d (E y)) (Γs s)
  | (none, s) => .nx (Γs s)
def lcS {τ σ υ : Type} (step : σ → τ → R (Option υ × σ)) : List τ → List υ → σ → R (List υ × σ)
  | [], acc, s => .ok (acc, s)
  | x :: xs, acc, s => (step s x).bind fun r => match r with
    | (none, s') => lcS step xs acc s'
    | (some y, s') => if acc.length < big then lcS step xs (acc ++ [y]) s' else .no
theorem item_of {g : FG} {d : PyData} {e : VL.Env} {w : SO} (h : cItem g d t f e = some w) : (∃ e1 e2, g d e = some e1 ∧ t e1 = some (.ok false e2) ∧ w = .nx e2) ∨ (∃ e1 e2 o e3 x e4, g d e = some e1 ∧ t e1 = some (.ok true e2) ∧ f e2 = some (.ok o e3) ∧ fz e3 o = some (x, e4) ∧ w = .rt (.fr x) e4) ∨ ∃ c e', w = .ex c e' := by
  have h0 : (match g d e with
    | none => none
    | some e1 => bndS (t e1) fun b => match b with
      | true => cX f kF
      | false => kSkip) = some w := h
  cases q : g d e with
  | none => rw [q] at h0; cases h0
  | some e1 =>
    rw [q] at h0
    dsimp only at h0
    cases q2 : t e1 with
    | none => rw [q2] at h0; cases h0
    | some r =>
      rw [q2] at h0
      cases r with
      | ex c e2 => cases h0; exact .inr (.inr ⟨_, _, rfl⟩)
      | ok b e2 =>
        cases b with
        | false => cases h0; exact .inl ⟨e1, e2, rfl, q2, rfl⟩
        | true =>
          have h1 : bndS (f e2) kF = some w := h0
          cases w with
          | rt b' e' =>
            obtain ⟨o, e3, x, k1, k2, rfl⟩ := kF_of h1
            exact .inr (.inl ⟨e1, e2, o, e3, x, e', rfl, q2, k1, k2, rfl⟩)
          | ex c e' => exact .inr (.inr ⟨_, _, rfl⟩)
          | nx e' => exact (kF_nx h1).elim
          | bk e' =>
            cases q3 : f e2 with
            | none => rw [q3] at h1; cases h1
            | some r =>
              rw [q3] at h1
              cases r with
              | ex c e1 => cases h1
              | ok o e1 =>
                have h' : ((fz e1 o).bind fun p => some (SO.rt (.fr p.1) p.2)) = some (.bk e') := h1
                cases q4 : fz e1 o with
                | none => rw [q4] at h'; cases h'
                | some p => rw [q4] at h'; cases h'
          | ct e' =>
            cases q3 : f e2 with
            | none => rw [q3] at h1; cases h1
            | some r =>
              rw [q3] at h1
              cases r with
              | ex c e1 => cases h1
              | ok o e1 =>
                have h' : ((fz e1 o).bind fun p => some (SO.rt (.fr p.1) p.2)) = some (.ct e') := h1
                cases q4 : fz e1 o with
                | none => rw [q4] at h'; cases h'
                | some p => rw [q4] at h'; cases h'
/-- no errors within -/
def R.calm (m : R α) : R α := match m with
  | .ex _ => .no
  | m => m
theorem lc_loop {g : FG} {vs : List Nat} {D : τ → PyData} {E : υ → PyData} {Γs : σ → Ctx} {step : σ → τ → R (Option υ × σ)} (hd : ∀ s, deadOk vs (Γs s) = true) (hb : ∀ s x, J (Γs s) (cItem g (D x) t f) (step s x) (poI E Γs)) : ∀ (xs : List τ) (acc : List υ) (s : σ) (e : VL.Env), Cov (Γs s) e → ∀ r, lcS (fun s x => (step s x).calm) xs acc s = .ok r →
    ∃ e', fLcL g t f vs (xs.map D) (acc.map E) e = some (.ok (.b (.ow (r.1.map E))) e') ∧ Cov (Γs r.2) e'
  | [], acc, s, e, he, r, hr => by
    cases hr
    exact ⟨e, rfl, he⟩
  | x :: xs, acc, s, e, he, r, hr => by
    unfold lcS at hr
    have h1 := hb s x e he
    cases q : step s x with
    | no => rw [q] at hr; cases hr
    | ex c => rw [q] at hr; cases hr
    | ok p =>
      rw [q] at hr h1
      obtain ⟨y, s'⟩ := p
      obtain ⟨w, h2, h3⟩ := h1
      cases y with
      | none =>
        have hr' : lcS (fun s x => (step s x).calm) xs acc s' = .ok r := hr
        obtain ⟨e', rfl, h5⟩ := h3
        rcases item_of h2 with ⟨e1, e2, k1, k2, k3⟩ | ⟨e1, e2, o, e3, x', e4, k1, k2, k3, k4, k5⟩ | ⟨c, e1, k⟩
        · cases k3
          obtain ⟨e6, k6, k7⟩ := lc_loop hd hb xs acc s' (forget vs e') (h5.forget vs (hd s')) r hr'
          refine ⟨e6, ?_, k7⟩
          show fLcL g t f vs (D x :: xs.map D) _ e = _
          rw [fLcL, k1]
          dsimp only
          rw [k2]
          exact k6
        · cases k5
        · cases k
      | some y =>
        have hr' : (if acc.length < big then lcS (fun s x => (step s x).calm) xs (acc ++ [y]) s' else .no) = .ok r := hr
        split at hr'
        · rename_i hl
          obtain ⟨b, e', rfl, h5, h6⟩ := h3
          rcases item_of h2 with ⟨e1, e2, k1, k2, k3⟩ | ⟨e1, e2, o, e3, x', e4, k1, k2, k3, k4, k5⟩ | ⟨c, e1, k⟩
          · cases k3
          · cases k5
            cases h5
            obtain ⟨e6, k6, k7⟩ := lc_loop hd hb xs (acc ++ [y]) s' (forget vs e') (h6.forget vs (hd s')) r hr'
            refine ⟨e6, ?_, k7⟩
            show fLcL g t f vs (D x :: xs.map D) _ e = _
            rw [fLcL, k1]
            dsimp only
            rw [k2]
            dsimp only
            rw [k3]
            dsimp only
            rw [k4]
            dsimp only
            rw [List.length_map, if_pos hl]
            rw [List.map_append] at k6
            exact k6
          · cases k
        · cases hr'
def cLc (g : FG) (t : FT) (f : FE) (vs : List Nat) (ds : List PyData) (K : O → KC) : KC := fun e => bndS (fLcL g t f vs ds [] (forget vs e)) K
theorem j_lc {g : FG} {vs : List Nat} (k : J Γ (cX fi fun ds => cLc g t f vs ds K) m po) : J Γ (cX (fLc fi g t f vs) K) m po := k.eq (funext fun e => by
  show bndS (bnd (fi e) fun ds e1 => fLcL g t f vs ds [] (forget vs e1)) K = _
  rw [bndS_bnd]
  rfl)
theorem j_lcG {g : FG} {vs : List Nat} {D : τ → PyData} {xs : List τ} {E : υ → PyData} {Γs : σ → Ctx} {step : σ → τ → R (Option υ × σ)} {mk : List υ × σ → R α} {xr : List υ → PyData} (s0 : σ) (h0 : restr l Γ = Γs s0) (hd : ∀ s, deadOk vs (Γs s) = true) (hb : ∀ s x, J (Γs s) (cItem g (D x) t f) (step s x) (poI E Γs)) (hx : ∀ ys, PyData.list (ys.map E) = xr ys) (k : ∀ r, J (Γs r.2) (K (.b (bow (xr r.1)))) (mk r) po) : J Γ (cLc g t f vs (xs.map D) K) ((lcS (fun s x => (step s x).calm) xs [] s0).bind mk) po := fun e he => by
  cases q : lcS (fun s x => (step s x).calm) xs [] s0 with
  | no => trivial
  | ex c =>
    exfalso
    have : ∀ (xs : List τ) (acc : List υ) (s : σ), lcS (fun s x => (step s x).calm) xs acc s ≠ .ex c := by
      intro xs
      induction xs with
      | nil => intro acc s h; cases h
      | cons x xs ih =>
        intro acc s h
        unfold lcS at h
        cases q : step s x with
        | no => rw [q] at h; cases h
        | ex c => rw [q] at h; cases h
        | ok p =>
          rw [q] at h
          obtain ⟨y, s'⟩ := p
          cases y with
          | none => exact ih acc s' h
          | some y =>
            have h' : (if acc.length < big then lcS (fun s x => (step s x).calm) xs (acc ++ [y]) s' else .no) = .ex c := h
            split at h'
            · exact ih _ _ h'
            · cases h'
    exact this _ _ _ q
  | ok r =>
    obtain ⟨e', h1, h2⟩ := lc_loop hd hb xs [] s0 (forget vs e) ((he.of h0).forget vs (hd s0)) r q
    have h3 := k r e' h2
    have hC : cLc g t f vs (xs.map D) K e = K (.b (bow (xr r.1))) e' := by
      unfold cLc
      have h1' : fLcL g t f vs (xs.map D) [] (forget vs e) = some (.ok (.b (.ow (r.1.map E))) e') := h1
      rw [h1', ← hx]
      rfl
    rw [hC]
    exact h3
/-- what keeps all that stands around -/
def lcM {τ υ : Type} (step : τ → R (Option υ)) : List τ → List υ → R (List υ)
  | [], acc => .ok acc
  | x :: xs, acc => (step x).bind fun r => match r with
    | none => lcM step xs acc
    | some y => if acc.length < big then lcM step xs (acc ++ [y]) else .no
theorem lcM_S (step : τ → R (Option υ)) : ∀ (xs : List τ) (acc : List υ), lcS (fun (_ : Unit) x => ((step x).bind fun r => R.ok (r, ())).calm) xs acc () = (lcM (fun x => (step x).calm) xs acc).bind fun ys => .ok (ys, ())
  | [], acc => rfl
  | x :: xs, acc => by
    unfold lcS lcM
    cases q : step x with
    | no => rfl
    | ex c => rfl
    | ok r =>
      cases r with
      | none => exact lcM_S step xs acc
      | some y =>
        show (if acc.length < big then lcS _ xs (acc ++ [y]) () else .no) = (if acc.length < big then lcM _ xs (acc ++ [y]) else .no).bind _
        split
        · exact lcM_S step xs (acc ++ [y])
        · rfl
/-- an item's end without a state -/
def poJ (E : υ → PyData) (Γs : Ctx) : Option υ → PO
  | some y => .rt (.d (E y)) Γs
  | none => .nx Γs
theorem j_lcM {g : FG} {vs : List Nat} {D : τ → PyData} {xs : List τ} {E : υ → PyData} {Γs : Ctx} {step : τ → R (Option υ)} {mk : List υ → R α} {xr : List υ → PyData} (h0 : restr l Γ = Γs) (hd : deadOk vs Γs = true) (hb : ∀ x, J Γs (cItem g (D x) t f) (step x) (poJ E Γs)) (hx : ∀ ys, PyData.list (ys.map E) = xr ys) (k : ∀ r, J Γs (K (.b (bow (xr r)))) (mk r) po) : J Γ (cLc g t f vs (xs.map D) K) ((lcM (fun x => (step x).calm) xs []).bind mk) po := by
  have h := j_lcG (Γ := Γ) (K := K) (po := po) (Γs := fun _ : Unit => Γs) (step := fun _ x => (step x).bind fun r => R.ok (r, ())) (E := E) (mk := fun r => mk r.1) (xr := xr) (xs := xs) () h0 (fun _ => hd) (fun _ x e he => by
    have h1 := hb x e he
    cases q : step x with
    | no => trivial
    | ex c => rw [q] at h1; exact h1
    | ok r =>
      rw [q] at h1
      cases r <;> exact h1) hx fun r => k r.1
  rw [lcM_S, bind_assoc] at h
  exact h
/-- tests and values that say no to nothing -/
def lcP {τ υ : Type} (p : τ → Bool) (q : τ → υ) (xs : List τ) : Option (List υ) := if xs.length ≤ big then some ((xs.filter p).map q) else none
theorem lcP_loop (p : τ → Bool) (q : τ → υ) : ∀ (xs : List τ) (acc : List υ), acc.length + xs.length ≤ big → lcM (fun x => (R.ok (if p x = true then some (q x) else none)).calm) xs acc = .ok (acc ++ (xs.filter p).map q)
  | [], acc, _ => by simp [lcM]
  | x :: xs, acc, hl => by
    rw [List.length_cons] at hl
    unfold lcM
    by_cases hp : p x = true
    · rw [List.filter_cons_of_pos hp, if_pos hp]
      show (if acc.length < big then lcM _ xs (acc ++ [q x]) else .no) = _
      rw [if_pos (by omega), lcP_loop p q xs (acc ++ [q x]) (by rw [List.length_append, List.length_singleton]; omega), List.map_cons, List.append_assoc]
      rfl
    · rw [List.filter_cons_of_neg hp, if_neg hp]
      exact lcP_loop p q xs acc (by omega)
theorem j_lcP {g : FG} {vs : List Nat} {D : τ → PyData} {xs : List τ} {E : υ → PyData} {Γs : Ctx} {p : τ → Bool} {q : τ → υ} {mk : List υ → R α} {xr : List υ → PyData} (h0 : restr l Γ = Γs) (hd : deadOk vs Γs = true) (hb : ∀ x, J Γs (cItem g (D x) t f) (if p x = true then .ok (some (q x)) else .ok none) (poJ E Γs)) (hx : ∀ ys, PyData.list (ys.map E) = xr ys) (k : ∀ r, J Γs (K (.b (bow (xr r)))) (mk r) po) : J Γ (cLc g t f vs (xs.map D) K) (ob (lcP p q xs) mk) po := by
  refine j_ob fun a ha => ?_
  have hb' : ∀ x, J Γs (cItem g (D x) t f) (.ok (if p x = true then some (q x) else none)) (poJ E Γs) := fun x => by
    have := hb x
    split
    · rename_i h; rw [if_pos h] at this; exact this
    · rename_i h; rw [if_neg h] at this; exact this
  have h := j_lcM (mk := mk) (xs := xs) h0 hd hb' hx k
  unfold lcP at ha
  split at ha
  · rename_i hl
    cases ha
    rw [lcP_loop p q xs [] (by simpa using hl)] at h
    exact h
  · cases ha
def cPutI (i : Nat) (o : O) (d : PyData) (C : KC) : KC := fun e => match res e o, at? e i with
  | some (.int k), some (.ow ds) => (ixN ds.length k).bind fun j => C (e.set i (some (.ow (ds.set j d))))
  | _, _ => none
def cHas (i : Nat) (C : KC) : KC := fun e => match at? e i with
  | none => none
  | some _ => C e
theorem j_has {s : Sl} (h : Γ[i]? = some (some s)) (k : J Γ C m po) : J Γ (cHas i C) m po := k.to fun e he => ⟨e, he, by
  have h1 := he.hold i _ h
  unfold cHas
  cases q : at? e i with
  | none => rw [q] at h1; cases s <;> cases h1
  | some b => rfl⟩
theorem putAt_eq {C : KC} : (fun e => bndS (putAt i fx x e) fun _ => C) = cHas i (cX fx fun o => cPutI i o x C) := funext fun e => by
  show bndS (match at? e i with
    | none => none
    | some _ => bnd (fx e) fun o e1 => match res e1 o, at? e1 i with
      | some (.int k), some (.ow ds) => (ixN ds.length k).bind fun j => some (Out.ok () (e1.set i (some (.ow (ds.set j x)))))
      | _, _ => none) _ = _
  unfold cHas
  cases q : at? e i with
  | none => rfl
  | some b =>
    dsimp only
    rw [bndS_bnd]
    refine congrArg _ (funext fun a => funext fun e1 => ?_)
    unfold cPutI
    split
    · rw [bndS_ob]
      rfl
    · rfl
theorem j_put2 (k : J Γ (cX fd fun ds => match ds with
  | [a, b] => cHas i (cX fx fun o => cPutI i o a (cHas j (cX fy fun o => cPutI j o b rest)))
  | _ => fun _ => none) m po) : J Γ (sSeq (sPut2 i fx j fy fd) rest) m po := k.eq (funext fun e => by
  show thn (bndS (fd e) fun ds e1 => match ds with
    | [a, b] => bndS (putAt i fx a e1) fun _ e2 => bndS (putAt j fy b e2) fun _ e3 => some (.nx e3)
    | _ => none) rest = _
  rw [thn_bndS]
  refine congrArg _ (funext fun ds => funext fun e1 => ?_)
  match ds with
  | [a, b] =>
    dsimp only
    rw [thn_bndS, ← putAt_eq]
    refine congrArg _ (funext fun _ => funext fun e2 => ?_)
    rw [thn_bndS, ← putAt_eq]
    rfl
  | [] => rfl
  | [_] => rfl
  | _ :: _ :: _ :: _ => rfl)
/-- xs with v at k -/
def setI {τ : Type} (xs : List τ) (k : Int) (v : τ) : Option (List τ) := (ixN xs.length k).map fun j => xs.set j v
theorem j_putI {k : Int} {ds : List PyData} {r : Option β} {y : β → PyData} {mk : β → R α} (h : Γ[i]? = some (some (.o (.list ds)))) (ho : Rd Γ o (.int k)) (hr : ∀ a, r = some a → (ixN ds.length k).map (fun j => PyData.list (ds.set j x)) = some (y a)) (kk : ∀ a, J (Γ.set i (some (.o (y a)))) C (mk a) po) : J Γ (cPutI i o x C) (ob r mk) po := j_ob fun a ha => (kk a).to fun e he => by
  have h1 := hr a ha
  cases q : ixN ds.length k with
  | none => rw [q] at h1; cases h1
  | some j =>
    rw [q] at h1
    have h2 : PyData.list (ds.set j x) = y a := Option.some.inj h1
    refine ⟨e.set i (some (.ow (ds.set j x))), he.set (s := .o (y a)) (by rw [← h2]; rfl), ?_⟩
    unfold cPutI
    rw [ho e he, he.own h]
    show (ixN ds.length k).bind _ = _
    rw [q]
    rfl
section
variable {K : List PyData → KC}
def cIt (sel : PyData → Option (List PyData)) (o : O) (K : List PyData → KC) : KC := fun e => (fz e o).bind fun p => (sel p.1).elim (none : Option SO) fun ds => K ds p.2
def selL : PyData → Option (List PyData)
  | .list ds => some ds
  | _ => none
theorem j_it {sel : PyData → Option (List PyData)} {ds : List PyData} (h : Fz Γ o x Γ') (hs : sel x = some ds) (k : J Γ' (K ds) m po) : J Γ (cIt sel o K) m po := k.to fun e he => by
  obtain ⟨e', h1, h2⟩ := h e he
  refine ⟨e', h2, ?_⟩
  show (fz e o).bind _ = _
  rw [h1, Option.bind_some, hs]
  rfl
theorem j_iSeq (k : J Γ (cX f fun o => cIt selL o K) m po) : J Γ (cX (iSeq f) K) m po := k.eq (funext fun e => by
  show bndS (bnd (f e) fun o e1 => (fz e1 o).bind fun p => match p.1 with
    | .list ds => some (Out.ok ds p.2)
    | _ => none) K = _
  rw [bndS_bnd]
  refine congrArg _ (funext fun a => funext fun e1 => ?_)
  rw [bndS_ob]
  refine congrArg _ (funext fun p => ?_)
  obtain ⟨d, e2⟩ := p
  cases d <;> rfl)
def selE : PyData → Option (List PyData)
  | .list ds => some (enumL 0 ds)
  | _ => none
theorem j_iEnum (k : J Γ (cX f fun o => cIt selE o K) m po) : J Γ (cX (iEnumr f) K) m po := k.eq (funext fun e => by
  show bndS (bnd (f e) fun o e1 => (fz e1 o).bind fun p => match p.1 with
    | .list ds => some (Out.ok (enumL 0 ds) p.2)
    | _ => none) K = _
  rw [bndS_bnd]
  refine congrArg _ (funext fun a => funext fun e1 => ?_)
  rw [bndS_ob]
  refine congrArg _ (funext fun p => ?_)
  obtain ⟨d, e2⟩ := p
  cases d <;> rfl)
/-- (0, x), (1, y), .. -/
def enumT {τ : Type} : Nat → List τ → List (Int × τ)
  | _, [] => []
  | i, x :: xs => ((i : Int), x) :: enumT (i + 1) xs
theorem enumL_map (D : τ → PyData) : ∀ (xs : List τ) (i : Nat), enumL i (xs.map D) = (enumT i xs).map fun p => .tuple [.int p.1, D p.2]
  | [], _ => rfl
  | x :: xs, i => by
    show PyData.tuple [.int i, D x] :: enumL (i + 1) (xs.map D) = _
    rw [enumL_map D xs (i + 1)]
    rfl
theorem selE_map (D : τ → PyData) (xs : List τ) : selE (.list (xs.map D)) = some ((enumT 0 xs).map fun p => .tuple [.int p.1, D p.2]) := by
  show some (enumL 0 (xs.map D)) = _
  rw [enumL_map]
def cRg1 (o : O) (K : List PyData → KC) : KC := fun e => match res e o with
  | some (.int j) => if lim j = true then K (rngN 0 j.toNat) e else none
  | _ => none
theorem j_iRg1 (k : J Γ (cX f fun o => cRg1 o K) m po) : J Γ (cX (iRange1 f) K) m po := k.eq (funext fun e => by
  show bndS (bnd (f e) fun o e1 => match res e1 o with
    | some (.int j) => if lim j = true then some (Out.ok (rngN 0 j.toNat) e1) else none
    | _ => none) K = _
  rw [bndS_bnd]
  refine congrArg _ (funext fun a => funext fun e1 => ?_)
  unfold cRg1
  split
  · split <;> rfl
  · rfl)
def rg1 (j : Int) : Option (List Int) := if lim j = true then some (rngL 0 j.toNat) else none
theorem j_rg1 {i : Int} {mk : List Int → R α} (h1 : Rd Γ o (.int i)) (k : ∀ xs : List Int, J Γ (K (xs.map Datum.toD)) (mk xs) po) : J Γ (cRg1 o K) (ob (rg1 i) mk) po := j_ob fun a ha => (k a).to fun e he => ⟨e, he, by
  unfold cRg1
  unfold rg1 at ha
  rw [h1 e he]
  dsimp only
  split at ha
  · rename_i q
    cases ha
    rw [if_pos q, rngN_L]
  · cases ha⟩
def cRg2 (o o2 : O) (K : List PyData → KC) : KC := fun e => match res e o, res e o2 with
  | some (.int i), some (.int j) => if lim i = true ∧ lim j = true then K (rngN i (j - i).toNat) e else none
  | _, _ => none
theorem j_iRg2 {g : FE} (k : J Γ (cX f fun o => cX g fun o2 => cRg2 o o2 K) m po) : J Γ (cX (iRange2 f g) K) m po := k.eq (funext fun e => by
  show bndS (bnd (f e) fun o e1 => bnd (g e1) fun o2 e2 => match res e2 o, res e2 o2 with
    | some (.int i), some (.int j) => if lim i = true ∧ lim j = true then some (Out.ok (rngN i (j - i).toNat) e2) else none
    | _, _ => none) K = _
  rw [bndS_bnd]
  refine congrArg _ (funext fun a => funext fun e1 => ?_)
  rw [bndS_bnd]
  refine congrArg _ (funext fun a => funext fun e1 => ?_)
  unfold cRg2
  split
  · split <;> rfl
  · rfl)
def rg2 (i j : Int) : Option (List Int) := if lim i = true ∧ lim j = true then some (rngL i (j - i).toNat) else none
theorem j_rg2 {i j : Int} {mk : List Int → R α} (h1 : Rd Γ o (.int i)) (h2 : Rd Γ o2 (.int j)) (k : ∀ xs : List Int, J Γ (K (xs.map Datum.toD)) (mk xs) po) : J Γ (cRg2 o o2 K) (ob (rg2 i j) mk) po := j_ob fun a ha => (k a).to fun e he => ⟨e, he, by
  unfold cRg2
  unfold rg2 at ha
  rw [h1 e he, h2 e he]
  dsimp only
  split at ha
  · rename_i q
    cases ha
    rw [if_pos q, rngN_L]
  · cases ha⟩
end
def kOb : O → KC := fun o e => match o with
  | .b (.fr d) => some (.rt (.fr d) e)
  | _ => none
theorem j_kob {a : α} (hr : restr l Γ = Γ') (hp : po a = .rt (.d x) Γ') : J Γ (kOb (.b (.fr x))) (.ok a) po := fun e he => ⟨_, rfl, by
  rw [hp]
  exact ⟨_, _, rfl, rfl, he.of hr⟩⟩
theorem kO_of {q : Option (Out O)} {b : B} {e' : VL.Env} (h : bndS q kO = some (.rt b e')) : ∃ o d, q = some (.ok o e') ∧ res e' o = some d ∧ b = .fr d := by
  cases q with
  | none => cases h
  | some r =>
    cases r with
    | ex c e1 => cases h
    | ok o e1 =>
      have q5 : kO o e1 = some (.rt b e') := h
      unfold kO at q5
      split at q5
      · rename_i d qd
        cases q5
        exact ⟨o, d, rfl, qd, rfl⟩
      · cases q5
theorem kOb_of {q : Option (Out O)} {b : B} {e' : VL.Env} (h : bndS q kOb = some (.rt b e')) : ∃ d, q = some (.ok (.b (.fr d)) e') ∧ b = .fr d := by
  cases q with
  | none => cases h
  | some r =>
    cases r with
    | ex c e1 => cases h
    | ok o e1 =>
      have q5 : kOb o e1 = some (.rt b e') := h
      unfold kOb at q5
      split at q5
      · rename_i d
        cases q5
        exact ⟨d, rfl, rfl⟩
      · cases q5
/-- a value that is told, no more -/
def Tot (Γ : Ctx) (f : FE) (x : PyData) : Prop := J Γ (cX f kO) (.ok ()) fun _ => .rt (.d x) Γ
def TotB (Γ : Ctx) (f : FE) (x : PyData) : Prop := J Γ (cX f kOb) (.ok ()) fun _ => .rt (.d x) Γ
theorem Tot.run (h : Tot Γ f x) {e : VL.Env} (he : Cov Γ e) : ∃ o e', f e = some (.ok o e') ∧ res e' o = some x ∧ Cov Γ e' := by
  obtain ⟨w, h2, b, e', rfl, h4, h5⟩ := h e he
  obtain ⟨o, d, q1, q2, rfl⟩ := kO_of h2
  cases h4
  exact ⟨o, e', q1, q2, h5⟩
theorem TotB.run (h : TotB Γ f x) {e : VL.Env} (he : Cov Γ e) : ∃ e', f e = some (.ok (.b (.fr x)) e') ∧ Cov Γ e' := by
  obtain ⟨w, h2, b, e', rfl, h4, h5⟩ := h e he
  obtain ⟨d, q1, rfl⟩ := kOb_of h2
  cases h4
  exact ⟨e', q1, h5⟩
theorem j_andVP {b1 b2 : Bool} (ha : Tot Γ fa (.bool b1)) (hb : TotB Γ fb (.bool b2)) (k : J Γ (K (.b (.fr (.bool (b1 && b2))))) m po) : J Γ (cX (fAndV fa fb) K) m po := k.to fun e he => by
  obtain ⟨o, e1, h1, h2, h3⟩ := ha.run he
  obtain ⟨e2, h4, h5⟩ := hb.run h3
  cases b1 with
  | true =>
    refine ⟨e2, h5, ?_⟩
    show bndS (bnd (fa e) fun o e1 => match res e1 o with
      | some (.bool true) => fb e1
      | some (.bool false) => okD (.bool false) e1
      | _ => none) K = _
    rw [h1]
    show bndS (match res e1 o with
      | some (.bool true) => fb e1
      | some (.bool false) => okD (.bool false) e1
      | _ => none) K = _
    rw [h2]
    show bndS (fb e1) K = _
    rw [h4]
    rfl
  | false =>
    refine ⟨e1, h3, ?_⟩
    show bndS (bnd (fa e) fun o e1 => match res e1 o with
      | some (.bool true) => fb e1
      | some (.bool false) => okD (.bool false) e1
      | _ => none) K = _
    rw [h1]
    show bndS (match res e1 o with
      | some (.bool true) => fb e1
      | some (.bool false) => okD (.bool false) e1
      | _ => none) K = _
    rw [h2]
    rfl
theorem j_chain3 {g h : PyData → PyData → Option B} {b1 b2 : Bool} {xv : PyData} (h1 : Rd Γ o1 x) (h2 : Rd Γ o2 y) (hg : g x y = some (.fr (.bool b1))) (hc : Tot Γ fc xv) (hh : h y xv = some (.fr (.bool b2))) (k : J Γ (K (.b (.fr (.bool (b1 && b2))))) m po) : J Γ (cCh g h o1 o2 fc K) m po := j_chain2 h1 h2 hg hc hh k
end TM
set_option maxRecDepth 100000
namespace TM
open PySem L2 VL PySem.W PySem.SeqAt Datum
section
variable {a b : Int}
theorem x_add : oAdd (toD a) (toD b) = some (.fr (toD (a + b))) := rfl
theorem x_sub : oSub (toD a) (toD b) = some (.fr (toD (a - b))) := rfl
theorem x_mul (h : cMul a b = true) : oMul (toD a) (toD b) = some (.fr (toD (a * b))) := by
  show (if cMul a b = true then some (B.fr (.int (a * b))) else none) = _
  rw [if_pos h]
  rfl
theorem cmul_l (h : decide (a.natAbs < 2 ^ 64) = true) : cMul a b = true := by unfold cMul; rw [h]; rfl
theorem cmul_r (h : decide (b.natAbs < 2 ^ 64) = true) : cMul a b = true := by unfold cMul; rw [h, Bool.or_true]
def mulI (a b : Int) : Option Int := if cMul a b = true then some (a * b) else none
theorem x_mulR : OpR oMul (toD a) (toD b) (mulI a b) fun z => .fr (toD z) := fun z hz => by
  unfold mulI at hz
  split at hz
  · rename_i h; cases hz; exact x_mul h
  · cases hz
theorem x_mod (h : decide (0 < b) = true) : oMod (toD a) (toD b) = some (.fr (toD (a % b))) := by
  show (if decide (0 < b) = true then some (B.fr (.int (a % b))) else none) = _
  rw [if_pos h]
  rfl
def modI (a b : Int) : Option Int := if decide (0 < b) = true then some (a % b) else none
theorem x_modR : OpR oMod (toD a) (toD b) (modI a b) fun z => .fr (toD z) := fun z hz => by
  unfold modI at hz
  split at hz
  · rename_i h; cases hz; exact x_mod h
  · cases hz
theorem x_fdiv (h : cFdiv a b = true) : opI cFdiv (fun i j => i / j) (toD a) (toD b) = some (.fr (toD (a / b))) := by
  show (if cFdiv a b = true then some (B.fr (.int (a / b))) else none) = _
  rw [if_pos h]
  rfl
theorem cfdiv_r (h : (decide (0 < b) && decide (b.natAbs < 2 ^ 200)) = true) : cFdiv a b = true := h
theorem x_pow (h : cPow a b = true) : oPow (toD a) (toD b) = some (.fr (toD (a ^ b.toNat))) := by
  show (if cPow a b = true then some (B.fr (.int (a ^ b.toNat))) else none) = _
  rw [if_pos h]
  rfl
theorem x_lt : oLt (toD a) (toD b) = some (.fr (toD (decide (a < b)))) := rfl
theorem x_le : oLe (toD a) (toD b) = some (.fr (toD (decide (a ≤ b)))) := rfl
theorem x_gt : oGt (toD a) (toD b) = some (.fr (toD (decide (b < a)))) := rfl
theorem x_ge : oGe (toD a) (toD b) = some (.fr (toD (decide (b ≤ a)))) := rfl
def max2 (a b : Int) : Int := if b > a then b else a
def min2 (a b : Int) : Int := if b < a then b else a
theorem x_max2 : gMax [toD a, toD b] = some (.fr (toD (max2 a b))) := rfl
theorem x_min2 : gMin [toD a, toD b] = some (.fr (toD (min2 a b))) := rfl
def b2i (b : Bool) : Int := if b then 1 else 0
theorem x_intB {b : Bool} : gInt [toD b] = some (.fr (toD (b2i b))) := rfl
end
section
variable {τ : Type} [DecidableEq τ] [Datum τ] {x y : τ} {xs ys : List τ} {i : Int}
theorem x_eq [Lay τ] : oEq (toD x) (toD y) = some (.fr (toD (decide (x = y)))) := o_eq x y
theorem x_ne [Lay τ] : oNe (toD x) (toD y) = some (.fr (toD (!decide (x = y)))) := o_ne x y
theorem atI_map' {β γ : Type} (f : β → γ) (xs : List β) (i : Int) : atI (xs.map f) i = (atI xs i).map f := by
  unfold atI
  rw [List.length_map]
  cases ixN xs.length i with
  | none => rfl
  | some j => rw [Option.bind_some, Option.bind_some, List.getElem?_map]
theorem x_ix : OpR oIx (toD xs) (toD i) (atI xs i) fun z => .fr (toD z) := fun z hz => by
  show (atI (xs.map toD) i).map B.fr = _
  rw [atI_map', hz]
  rfl
def addL (xs ys : List τ) : Option (List τ) := if xs.length + ys.length ≤ big then some (xs ++ ys) else none
theorem x_addL : OpR oAdd (toD xs) (toD ys) (addL xs ys) fun z => bow (toD z) := fun z hz => by
  unfold addL at hz
  split at hz
  · rename_i h
    cases hz
    show (if (xs.map toD).length + (ys.map toD).length ≤ big then some (B.ow (xs.map toD ++ ys.map toD)) else none) = _
    rw [List.length_map, List.length_map, if_pos h, ← List.map_append]
    rfl
  · cases hz
def mulL (xs : List τ) (k : Int) : Option (List τ) := if k.natAbs < 2 ^ 63 ∧ xs.length * k.toNat ≤ big then some (List.replicate k.toNat xs).flatten else none
theorem x_mulL : OpR oMul (toD xs) (toD i) (mulL xs i) fun z => bow (toD z) := fun z hz => by
  unfold mulL at hz
  split at hz
  · rename_i h
    cases hz
    show (if i.natAbs < 2 ^ 63 ∧ (xs.map toD).length * i.toNat ≤ big then some (B.ow (List.replicate i.toNat (xs.map toD)).flatten) else none) = _
    rw [List.length_map, if_pos h]
    show _ = some (B.ow (List.map toD (List.replicate i.toNat xs).flatten))
    rw [List.map_flatten, List.map_replicate]
  · cases hz
theorem x_rev : oRev (toD xs) = some (bow (toD xs.reverse)) := by
  show some (B.ow (xs.map toD).reverse) = some (B.ow (xs.reverse.map toD))
  rw [List.map_reverse]
theorem cut_map {α β : Type} (f : α → β) (xs : List α) (lo hi : Option Int) : cutD (xs.map f) lo hi = (cutD xs lo hi).map f := by
  unfold cutD
  rw [List.length_map, ← List.map_drop, ← List.map_take]
theorem x_sl {lo hi : Option Int} : oSl (toD xs) lo hi = some (bow (toD (cutD xs lo hi))) := by
  show some (B.ow (cutD (xs.map toD) lo hi)) = _
  rw [cut_map]
  rfl
theorem x_len : gLen [toD xs] = some (.fr (toD (xs.length : Int))) := by
  show some (B.fr (.int ((xs.map toD).length : Nat))) = _
  rw [List.length_map]
  rfl
theorem x_list : gList [toD xs] = some (bow (toD xs)) := rfl
def appL (xs : List τ) (v : τ) : Option (List τ) := if xs.length < big then some (xs ++ [v]) else none
theorem x_app (a : List τ) (h : appL xs x = some a) : mAppend (xs.map toD) [toD x] = some (.fr .none, a.map toD) := by
  unfold appL at h
  split at h
  · rename_i hl
    cases h
    show (if (xs.map toD).length < big then some (B.fr .none, xs.map toD ++ [toD x]) else none) = _
    rw [List.length_map, if_pos hl, List.map_append]
    rfl
  · cases h
def popL (xs : List τ) : Option (τ × List τ) := (xs[xs.length - 1]?).map fun x => (x, xs.dropLast)
theorem x_pop (a : τ × List τ) (h : popL xs = some a) : mPop (xs.map toD) [] = some (.fr (toD a.1), a.2.map toD) := by
  unfold popL at h
  show ((xs.map toD)[(xs.map toD).length - 1]?).map (fun d => (B.fr d, (xs.map toD).dropLast)) = _
  rw [List.length_map, List.getElem?_map]
  cases q : xs[xs.length - 1]? with
  | none => rw [q] at h; cases h
  | some z =>
    rw [q] at h
    cases h
    show some (B.fr (toD z), (xs.map toD).dropLast) = some (B.fr (toD z), (xs.dropLast).map toD)
    rw [List.map_dropLast]
def popI (xs : List τ) (i : Int) : Option (τ × List τ) := if lim63 i = true then (seqIndex? i xs.length).bind fun k => (xs[k]?).map fun x => (x, xs.eraseIdx k) else none
theorem map_eraseIdx {α β : Type} (f : α → β) : ∀ (xs : List α) (j : Nat), (xs.map f).eraseIdx j = (xs.eraseIdx j).map f
  | [], _ => rfl
  | x :: xs, 0 => rfl
  | x :: xs, j + 1 => by
    show f x :: (xs.map f).eraseIdx j = f x :: (xs.eraseIdx j).map f
    rw [map_eraseIdx f xs j]
theorem x_popI (a : τ × List τ) (h : popI xs i = some a) : mPop (xs.map toD) [toD i] = some (.fr (toD a.1), a.2.map toD) := by
  unfold popI at h
  show (if lim63 i = true then (seqIndex? i (xs.map toD).length).bind fun k => ((xs.map toD)[k]?).map fun d => (B.fr d, (xs.map toD).eraseIdx k) else none) = _
  split at h
  · rename_i hl
    rw [if_pos hl, List.length_map]
    cases q : seqIndex? i xs.length with
    | none => rw [q] at h; cases h
    | some k =>
      rw [q] at h
      rw [Option.bind_some] at h ⊢
      rw [List.getElem?_map]
      cases q2 : xs[k]? with
      | none => rw [q2] at h; cases h
      | some z =>
        rw [q2] at h
        cases h
        show some (B.fr (toD z), (xs.map toD).eraseIdx k) = _
        rw [map_eraseIdx]
  · cases h
def insL (xs : List τ) (i : Int) (v : τ) : Option (List τ) := if 0 ≤ i ∧ i.natAbs < 2 ^ 62 ∧ xs.length < big then some (xs.take i.toNat ++ [v] ++ xs.drop i.toNat) else none
theorem x_ins (a : List τ) (h : insL xs i x = some a) : mInsert (xs.map toD) [toD i, toD x] = some (.fr .none, a.map toD) := by
  unfold insL at h
  split at h
  · rename_i hl
    cases h
    show (if 0 ≤ i ∧ i.natAbs < 2 ^ 62 ∧ (xs.map toD).length < big then some (B.fr .none, (xs.map toD).take i.toNat ++ [toD x] ++ (xs.map toD).drop i.toNat) else none) = _
    rw [List.length_map, if_pos hl, List.map_append, List.map_append, List.map_take, List.map_drop]
    rfl
  · cases h
theorem x_set (v : τ) (a : List τ) (h : setI xs i v = some a) : (ixN (xs.map toD).length i).map (fun j => PyData.list ((xs.map toD).set j (toD v))) = some (toD a) := by
  unfold setI at h
  rw [List.length_map]
  cases q : ixN xs.length i with
  | none => rw [q] at h; cases h
  | some j =>
    rw [q] at h
    cases h
    show some (PyData.list ((xs.map toD).set j (toD v))) = some (PyData.list ((xs.set j v).map toD))
    rw [List.map_set]
end
section
variable {xs : List Int} {i v : Int}
theorem asInts_D : asInts (xs.map toD) = some xs := asInts_map xs
theorem x_sum : gSum [toD xs] = some (.fr (toD xs.sum)) := by
  show (asInts (xs.map toD)).map (fun ns => B.fr (.int ns.sum)) = _
  rw [asInts_D]
  rfl
theorem x_sorted : gSorted [toD xs] = some (bow (toD (xs.mergeSort leI))) := by
  show (asInts (xs.map toD)).map (fun ns => B.ow ((ns.mergeSort leI).map .int)) = _
  rw [asInts_D]
  rfl
/-- xs with v more at i -/
def augL (xs : List Int) (i v : Int) : Option (List Int) := (ixN xs.length i).bind fun j => (xs[j]?).map fun old => xs.set j (old + v)
end
end TM
set_option maxRecDepth 100000
namespace TM
open PySem L2 VL PySem.W PySem.SeqAt Datum
end TM
set_option maxRecDepth 100000
namespace TM
open PySem L2 VL PySem.W PySem.SeqAt Datum
class KeyT (κ : Type) [DecidableEq κ] [Datum κ] : Prop where
  isK : ∀ a : κ, isK (toD a) = true
  keq : ∀ a b : κ, keq (toD a) (toD b) = decide (a = b)
instance : KeyT Int := ⟨fun _ => rfl, fun _ _ => rfl⟩
instance : KeyT Str := ⟨fun _ => rfl, fun _ _ => rfl⟩
section
variable {κ υ : Type} [DecidableEq κ] [Datum κ] [DecidableEq υ] [Datum υ]
/-- a dict's entries as data -/
def eD (p : κ × υ) : PyData × PyData := (toD p.1, toD p.2)
def dD (l : List (κ × υ)) : PyData := .dict (l.map eD)
def lookT (l : List (κ × υ)) (k : κ) : Option υ := (l.find? fun p => decide (p.1 = k)).map (·.2)
def putT (l : List (κ × υ)) (k : κ) (v : υ) : List (κ × υ) := if (l.any fun p => decide (p.1 = k)) = true then l.map (fun p => if p.1 = k then (p.1, v) else p) else l ++ [(k, v)]
def putG (l : List (κ × υ)) (k : κ) (v : υ) : Option (List (κ × υ)) := if l.length < big then some (putT l k v) else none
variable [KeyT κ] {l : List (κ × υ)} {k : κ} {v : υ}
theorem look_eD (l : List (κ × υ)) (k : κ) : lookD (l.map eD) (toD k) = (lookT l k).map toD := by
  unfold lookD lookT
  induction l with
  | nil => rfl
  | cons p l ih =>
    rw [List.map_cons, List.find?_cons, List.find?_cons]
    show Option.map _ (match keq (toD p.1) (toD k) with
      | true => some (eD p)
      | false => _) = _
    rw [KeyT.keq]
    cases decide (p.1 = k) with
    | true => rfl
    | false => exact ih
theorem any_eD (l : List (κ × υ)) (k : κ) : ((l.map eD).any fun p => keq p.1 (toD k)) = l.any fun p => decide (p.1 = k) := by
  induction l with
  | nil => rfl
  | cons p l ih =>
    rw [List.map_cons, List.any_cons, List.any_cons, ih]
    show (keq (toD p.1) (toD k) || _) = _
    rw [KeyT.keq]
theorem put_eD (l : List (κ × υ)) (k : κ) (v : υ) : putD (l.map eD) (toD k) (toD v) = (putT l k v).map eD := by
  unfold putD putT
  rw [any_eD]
  split
  · rw [List.map_map, List.map_map]
    refine List.map_congr_left fun p _ => ?_
    show (if keq (toD p.1) (toD k) = true then ((eD p).1, toD v) else eD p) = eD (if p.1 = k then (p.1, v) else p)
    rw [KeyT.keq]
    by_cases h : p.1 = k
    · rw [if_pos (decide_eq_true h), if_pos h]; rfl
    · rw [if_neg (by rw [decide_eq_false h]; decide), if_neg h]
  · rw [List.map_append]
    rfl
theorem x_dix : OpR oDix (dD l) (toD k) (lookT l k) fun z => .fr (toD z) := fun z hz => by
  show (if isK (toD k) = true then (lookD (l.map eD) (toD k)).map B.fr else none) = _
  rw [if_pos (KeyT.isK k), look_eD, hz]
  rfl
end
variable {Γ Γ' : Ctx} {α β : Type} {m : R α} {po : α → PO} {K : O → KC} {o o1 o2 o3 : O} {fa fk fv fx : FE} {rest : FS} {x y : PyData} {i : Nat} {C : KC}
variable {κ υ : Type} [DecidableEq κ] [Datum κ] [DecidableEq υ] [Datum υ] [KeyT κ]
theorem j_dnew (k : J Γ (K (.b (bow (dD ([] : List (κ × υ)))))) m po) : J Γ (cX fDNew K) m po := k
def cPutD (i : Nat) (o : O) (d : PyData) (C : KC) : KC := fun e => match res e o, at? e i with
  | some k, some (.od ds) => if isK k = true ∧ ds.length < big then C (e.set i (some (.od (putD ds k d)))) else none
  | _, _ => none
theorem putAtD_eq {C : KC} : (fun e => bndS (putAtD i fx x e) fun _ => C) = cHas i (cX fx fun o => cPutD i o x C) := funext fun e => by
  show bndS (match at? e i with
    | none => none
    | some _ => bnd (fx e) fun o e1 => match res e1 o, at? e1 i with
      | some k, some (.od ds) => if isK k = true ∧ ds.length < big then some (Out.ok () (e1.set i (some (.od (putD ds k x))))) else none
      | _, _ => none) _ = _
  unfold cHas
  cases q : at? e i with
  | none => rfl
  | some b =>
    dsimp only
    rw [bndS_bnd]
    refine congrArg _ (funext fun a => funext fun e1 => ?_)
    unfold cPutD
    split
    · split <;> rfl
    · rfl
theorem j_putD (k : J Γ (cX fv fun o => cFz o fun d => cHas i (cX fx fun o => cPutD i o d rest)) m po) : J Γ (sSeq (sPutD i fx fv) rest) m po := k.eq (funext fun e => by
  show thn (bndS (fv e) fun o e1 => (fz e1 o).bind fun p => bndS (putAtD i fx p.1 p.2) fun _ e2 => some (.nx e2)) rest = _
  rw [thn_bndS]
  refine congrArg _ (funext fun a => funext fun e1 => ?_)
  rw [thn_ob]
  refine congrArg _ (funext fun p => ?_)
  rw [thn_bndS]
  exact congrFun putAtD_eq p.2)
theorem j_putDop {l : List (κ × υ)} {k : κ} {v : υ} {mk : List (κ × υ) → R α} (h : Γ[i]? = some (some (.o (dD l)))) (ho : Rd Γ o (toD k)) (kk : ∀ a, J (Γ.set i (some (.o (dD a)))) C (mk a) po) : J Γ (cPutD i o (toD v) C) (ob (putG l k v) mk) po := j_ob fun a ha => (kk a).to fun e he => by
  unfold putG at ha
  split at ha
  · rename_i hl
    cases ha
    refine ⟨e.set i (some (.od (putD (l.map eD) (toD k) (toD v)))), he.set (s := .o (dD (putT l k v))) (by rw [put_eD]; rfl), ?_⟩
    unfold cPutD
    rw [ho e he, he.own h]
    show (if isK (toD k) = true ∧ (l.map eD).length < big then C (e.set i (some (.od (putD (l.map eD) (toD k) (toD v))))) else none) = _
    rw [if_pos ⟨KeyT.isK k, by rw [List.length_map]; exact hl⟩]
  · cases ha
end TM
set_option maxRecDepth 100000
namespace TM
open PySem L2 VL PySem.W Datum
end TM
set_option maxRecDepth 100000
namespace TM
open PySem L2 VL PySem.W Datum
end TM
set_option maxRecDepth 100000
namespace TM
open PySem L2 VL PySem.W Datum
end TM
namespace TM
open PySem L2 VL PySem.W Datum
end TM
set_option maxRecDepth 100000
namespace TM
open PySem L2 VL PySem.W Datum PyProof.Rows
end TM
set_option maxRecDepth 100000
namespace TM
open PySem L2 VL PySem.W Datum
end TM
set_option maxRecDepth 100000
namespace TM
open PySem L2 VL PySem.W Datum
end TM
set_option maxRecDepth 100000
namespace TM
open PySem L2 VL PySem.W Datum
end TM
namespace TM
open PySem L2 VL PySem.W Datum
end TM
namespace TM
open PySem L2 VL PySem.W Datum
end TM
set_option maxRecDepth 100000
namespace TM
open PySem L2 VL PySem.W Datum
instance : Lay (Option Int) := ⟨fun o => by
  cases o with
  | none => show PyData.none.canLay0 = true; rw [PyData.canLay0]
  | some i => show (PyData.int _).canLay0 = true; rw [PyData.canLay0], by decide⟩
end TM
set_option maxRecDepth 100000
namespace TM
open PySem L2 VL PySem.W Datum
theorem j_re {Γ Γ' : Ctx} {α : Type} {m : R α} {po : α → PO} {C : KC} (h : Γ = Γ') (k : J Γ' C m po) : J Γ C m po := h ▸ k
end TM
set_option maxRecDepth 100000
namespace TM
open PySem L2 VL PySem.W Datum
end TM
set_option maxRecDepth 100000
namespace TM
open PySem L2 VL PySem.W Datum PyProof.Rows
instance : Lay (Int × List (List Int)) := ⟨fun p => by
  show (PyData.tuple [.int p.1, toD p.2]).canLay0 = true
  rw [PyData.canLay0, PyData.canLayAll0, PyData.canLayAll0, PyData.canLayAll0, Lay.lay p.2]
  simp [PyData.canLay0], by decide⟩
instance : Lay (List (Int × List (List Int))) := ⟨lay_lst, by decide⟩
class Alk (α : Type) [DecidableEq α] [Datum α] : Prop where
  alk : ∀ a b : α, alike (Datum.toD a) (Datum.toD b) = true
instance : Alk Int := ⟨fun _ _ => rfl⟩
theorem alikeAll_map {α : Type} [DecidableEq α] [Datum α] [Alk α] : ∀ xs ys : List α, alikeAll (xs.map Datum.toD) (ys.map Datum.toD) = true
  | [], _ => by rw [List.map_nil, alikeAll]
  | _ :: _, [] => by rw [List.map_nil, List.map_cons, alikeAll]
  | x :: xs, y :: ys => by
    rw [List.map_cons, List.map_cons, alikeAll, Alk.alk x y, alikeAll_map xs ys]
    rfl
instance {α : Type} [DecidableEq α] [Datum α] [Alk α] : Alk (List α) := ⟨fun xs ys => by
  show alike (.list _) (.list _) = true
  rw [alike]
  exact alikeAll_map xs ys⟩
instance {α β : Type} [DecidableEq α] [Datum α] [Alk α] [DecidableEq β] [Datum β] [Alk β] : Alk (α × β) := ⟨fun p q => by
  show alike (.tuple [toD p.1, toD p.2]) (.tuple [toD q.1, toD q.2]) = true
  rw [alike, alikeAll, Alk.alk p.1 q.1, alikeAll, Alk.alk p.2 q.2, alikeAll]
  rfl⟩
variable {τ : Type} [DecidableEq τ] [Datum τ] [Alk τ] [Lay τ] [Lay (Int × τ)]
end TM
set_option maxRecDepth 100000
namespace TM
open PySem L2 VL PySem.W Datum PyProof.Rows
end TM
set_option maxRecDepth 100000
namespace TM
open PySem L2 VL PySem.W PySem.SeqAt
open PySem.W.Datum (toD)
variable {Γ Γ' Γ1 Γ2 : Ctx} {α β σ τ γ δ υ : Type} {m : R α} {po : α → PO} {K : O → KC} {C : KC} {o o1 o2 o3 : O} {x y : PyData} {b z : B} {i j n : Nat} {f fa fb fc fx fy fv : FE} {rest A : FS} {op : PyData → PyData → Option B} {fd : FD} {fi : FI} {t : FT} {l : List Nat} {a : α} {mi : List (Nat × Nat)} {F : Fn}
/-- a list that owns its things -/
def trL (E : τ → Tr) (xs : List τ) : Tr := .nd .lst (xs.map E)
/-- a frozen thing -/
def frD [DecidableEq τ] [W.Datum τ] (x : τ) : Tr := .fr (toD x)
theorem dats_map (E : τ → Tr) (D : τ → PyData) (h : ∀ x, (E x).dat = some (D x)) : ∀ xs : List τ, Tr.dats (xs.map E) = some (xs.map D)
  | [] => rfl
  | x :: xs => by
    rw [List.map_cons, List.map_cons, Tr.dats, h x, dats_map E D h xs]
    rfl
theorem dat_trL [DecidableEq τ] [W.Datum τ] {E : τ → Tr} (h : ∀ x, (E x).dat = some (toD x)) (xs : List τ) : (trL E xs).dat = some (toD xs) := by
  show (Tr.nd .lst (xs.map E)).dat = some (PyData.list (xs.map toD))
  rw [Tr.dat, dats_map E toD h xs]
  rfl
theorem dat_frD [DecidableEq τ] [W.Datum τ] (x : τ) : (frD x).dat = some (toD x) := by
  unfold frD
  rw [Tr.dat]
/-- a row, in the tree (E), in its slot (kb, kx) -/
structure Row (fl : Bool) (E : τ → Tr) (kb : τ → B) (kx : τ → Sl) : Prop where
  b : ∀ x, rowB fl (E x) = some (kb x)
  ok : ∀ x c, (kx x).ok c ↔ c = some (kb x)
  t : ∀ x, trOf (kb x) = some (E x)
theorem frs_map [DecidableEq τ] [W.Datum τ] : ∀ xs : List τ, frsT (xs.map frD) = some (xs.map toD)
  | [] => rfl
  | x :: xs => by
    rw [List.map_cons]
    show (frsT (xs.map frD)).map (toD x :: ·) = _
    rw [frs_map xs]
    rfl
theorem row_o [DecidableEq τ] [W.Datum τ] : Row true (trL (frD (τ := τ))) (fun x => bow (toD x)) (fun x => .o (toD x)) :=
  ⟨fun x => by
    show (frsT (x.map frD)).map B.ow = some (B.ow (x.map toD))
    rw [frs_map]
    rfl, fun _ _ => Iff.rfl, fun x => by
    show some (Tr.nd .lst ((x.map toD).map .fr)) = some (Tr.nd .lst (x.map frD))
    rw [List.map_map]
    rfl⟩
def cOwnT (i : Nat) (o : O) (rest : FS) : KC := fun e => (ownT e o).bind fun p => rest (p.2.set i (some (.tr p.1)))
theorem j_ownT (k : J Γ (cX f fun o => cOwnT i o rest) m po) : J Γ (sSeq (sOwnT i f) rest) m po := k.eq (funext fun e => by
  show thn (bndS (f e) fun o e1 => (ownT e1 o).bind fun p => some (SO.nx (p.2.set i (some (.tr p.1))))) rest = _
  rw [thn_bndS]
  refine congrArg _ (funext fun a => funext fun e1 => ?_)
  rw [thn_ob]
  rfl)
theorem j_ownTb {t : Tr} (h : trOf b = some t) (k : J (Γ.set i (some (.t t))) rest m po) : J Γ (cOwnT i (.b b) rest) m po := k.to fun e he => ⟨_, he.set (s := .t t) (b := some (.tr t)) rfl, by
  show ((trOf b).map fun t => (t, e)).bind _ = _
  rw [h]
  rfl⟩
def cIce (o : O) (K : O → KC) : KC := fun e => (fz e o).bind fun p => K (.b (.fr p.1)) p.2
theorem j_ice (k : J Γ (cX f fun o => cIce o K) m po) : J Γ (cX (fIce f) K) m po := k.eq (funext fun e => by
  show bndS (bnd (f e) fun o e1 => (fz e1 o).bind fun p => some (Out.ok (.b (.fr p.1)) p.2)) K = _
  rw [bndS_bnd]
  refine congrArg _ (funext fun a => funext fun e1 => ?_)
  rw [bndS_ob]
  rfl)
theorem j_iceo {d : PyData} (h : Fz Γ o d Γ') (k : J Γ' (K (.b (.fr d))) m po) : J Γ (cIce o K) m po := k.to fun e he => by
  obtain ⟨e', h1, h2⟩ := h e he
  exact ⟨e', h2, by show (fz e o).bind _ = _; rw [h1]; rfl⟩
theorem fz_t {t : Tr} {d : PyData} (h : t.dat = some d) : Fz Γ (.b (.tr t)) d Γ := fun e he => ⟨e, by
  show (t.dat).map (fun d => (d, e)) = _
  rw [h]
  rfl, he⟩
theorem j_callTr {os : List O} {bs : List B} {m1 : R β} {xr : β → Tr} {ch : β → List (Nat × Sl)} {mk : β → R α} {Γb : β → Ctx} (h0 : (slotsOk mi 0 os && miOk mi os && os.length == n) = true) (h1 : BdA Γ os bs) (hF : FnS F bs m1 (fun a => .t (xr a)) ch) (hb : ∀ a, TM.back mi (ch a) Γ = Γb a) (k : ∀ a, J (Γb a) (K (.b (.tr (xr a)))) (mk a) po) : J Γ (cCall F n mi os K) (m1.bind mk) po :=
  j_callG h0 h1 hF fun a b h => by
    have h' : some b = some (.tr (xr a)) := h
    cases h'
    rw [hb]
    exact k a
end TM
set_option maxRecDepth 100000
namespace TM
open PySem L2 VL PySem.W PySem.SeqAt
open PySem.W.Datum (toD)
inductive LdC : Ctx → Ctx → Prop
  | nil : LdC [] []
  | no {Γ Γ' : Ctx} {s : Option Sl} : LdC Γ Γ' → LdC (s :: Γ) (none :: Γ')
  | d {Γ Γ' : Ctx} {x : PyData} : LdC Γ Γ' → LdC (some (.d x) :: Γ) (some (.d x) :: Γ')
  | o {Γ Γ' : Ctx} {x : PyData} : LdC Γ Γ' → LdC (some (.o x) :: Γ) (some (.d x) :: Γ')
  | sc {Γ Γ' : Ctx} {ns : List Int} : LdC Γ Γ' → LdC (some (.sc ns) :: Γ) (some (.sc ns) :: Γ')
  | xo {Γ Γ' : Ctx} {c : Option Str} : LdC Γ Γ' → LdC (some (.xo c) :: Γ) (some (.xo c) :: Γ')
  | t {Γ Γ' : Ctx} {t : Tr} {x : PyData} (h : t.dat = some x) : LdC Γ Γ' → LdC (some (.t t) :: Γ) (some (.d x) :: Γ')
variable {Γ Γ' Γ1 Γ2 Γl : Ctx} {α β σ τ γ δ υ : Type} {m : R α} {po : α → PO} {K : O → KC} {C : KC} {o o1 o2 o3 : O} {x y : PyData} {b z : B} {i j n q : Nat} {f fa fb fc fx fy fv : FE} {t : FT} {rest A : FS} {fi : FI} {l vs : List Nat} {a : α}
theorem cov_cons {s : Option Sl} {c : Option B} {e : VL.Env} (h : Cov (s :: Γ) (c :: e)) : (∀ s', s = some s' → s'.ok c) ∧ Cov Γ e := by
  refine ⟨fun s' q => ?_, ⟨by simpa using h.len, fun i s' q => ?_⟩⟩
  · subst q
    exact h.hold 0 s' rfl
  · have := h.hold (i + 1) s' (by simpa using q)
    unfold at? at this ⊢
    rw [List.getElem?_cons_succ] at this
    exact this
theorem cov_mk {s : Option Sl} {c : Option B} {e : VL.Env} (h : ∀ s', s = some s' → s'.ok c) (k : Cov Γ e) : Cov (s :: Γ) (c :: e) := by
  refine ⟨by simp [k.len], fun i s' q => ?_⟩
  cases i with
  | zero =>
    have q' : s = some s' := by simpa using q
    exact h s' q'
  | succ i =>
    have := k.hold i s' (by simpa using q)
    unfold at? at this ⊢
    rw [List.getElem?_cons_succ]
    exact this
theorem lent_d {c : Option B} {x : PyData} (h : (Sl.d x).ok c) : (Sl.d x).ok (c.bind lent) := by
  have h' : c.bind B.dat = some x := h
  cases c with
  | none => cases h'
  | some b =>
    have h'' : b.dat = some x := h'
    cases b with
    | fr d => exact h''
    | ow d => exact h''
    | od d => exact h''
    | ex c => cases h''
    | rs k d => cases h''
    | sc ns => cases h''
    | tr t => cases h''
theorem LdC.cov : ∀ {Γ Γ' : Ctx}, LdC Γ Γ' → ∀ {e : VL.Env}, Cov Γ e → Cov Γ' (lendE e)
  | _, _, .nil, e, h => by
    have : e = [] := List.eq_nil_of_length_eq_zero (by rw [h.len]; rfl)
    subst this
    exact ⟨rfl, fun i s q => by simp at q⟩
  | _, _, .no k, [], h => by have := h.len; simp at this
  | _, _, .no k, c :: e, h => cov_mk (fun s' q => nomatch q) (k.cov (cov_cons h).2)
  | _, _, .d k, [], h => by have := h.len; simp at this
  | _, _, .d k, c :: e, h => cov_mk (fun s' q => by
    cases q
    exact lent_d ((cov_cons h).1 _ rfl)) (k.cov (cov_cons h).2)
  | _, _, .o k, [], h => by have := h.len; simp at this
  | _, _, .o (x := x) k, c :: e, h => cov_mk (fun s' q => by
    cases q
    have h1 : c = some (bow x) := (cov_cons h).1 _ rfl
    exact lent_d (by rw [h1]; exact bow_dat x)) (k.cov (cov_cons h).2)
  | _, _, .sc k, [], h => by have := h.len; simp at this
  | _, _, .sc k, c :: e, h => cov_mk (fun s' q => by
    cases q
    have h1 : c = _ := (cov_cons h).1 _ rfl
    rw [h1]
    rfl) (k.cov (cov_cons h).2)
  | _, _, .xo k, [], h => by have := h.len; simp at this
  | _, _, .xo (c := w) k, c :: e, h => cov_mk (fun s' q => by
    cases q
    have h1 : c = some (xB w) := (cov_cons h).1 _ rfl
    rw [h1]
    cases w <;> rfl) (k.cov (cov_cons h).2)
  | _, _, .t hd k, [], h => by have := h.len; simp at this
  | _, _, .t hd k, c :: e, h => cov_mk (fun s' q => by
    cases q
    have h1 : c = _ := (cov_cons h).1 _ rfl
    rw [h1]
    show ((Tr.dat _).map B.fr).bind B.dat = _
    rw [hd]
    rfl) (k.cov (cov_cons h).2)
def kT : O → KC := fun o e => (ownT e o).bind fun p => some (.rt (.tr p.1) p.2)
def cTurn (t : FT) (f : FE) : KC := cX t fun b => match b with
  | true => cX f kT
  | false => kSkip
def poT (E : υ → Tr) (Γs : σ → Ctx) : Option υ × σ → PO
  | (some y, s) => .rt (.t (E y)) (Γs s)
  | (none, s) => .nx (Γs s)
def poTJ (E : υ → Tr) (Γs : Ctx) : Option υ → PO
  | some y => .rt (.t (E y)) Γs
  | none => .nx Γs
theorem kT_of {r : Option (Out O)} {w : SO} (h : bndS r kT = some w) : (∃ o e3 x e4, r = some (.ok o e3) ∧ ownT e3 o = some (x, e4) ∧ w = .rt (.tr x) e4) ∨ ∃ c e', w = .ex c e' := by
  cases r with
  | none => cases h
  | some r =>
    cases r with
    | ex c e => cases h; exact .inr ⟨_, _, rfl⟩
    | ok o e =>
      have h' : ((ownT e o).bind fun p => some (SO.rt (.tr p.1) p.2)) = some w := h
      cases q : ownT e o with
      | none => rw [q] at h'; cases h'
      | some p =>
        rw [q] at h'
        cases h'
        exact .inl ⟨o, e, p.1, p.2, rfl, q, rfl⟩
theorem turn_of {e : VL.Env} {w : SO} (h : cTurn t f e = some w) : (∃ e2, t e = some (.ok false e2) ∧ w = .nx e2) ∨ (∃ e2 o e3 x e4, t e = some (.ok true e2) ∧ f e2 = some (.ok o e3) ∧ ownT e3 o = some (x, e4) ∧ w = .rt (.tr x) e4) ∨ ∃ c e', w = .ex c e' := by
  have h0 : bndS (t e) (fun b => match b with
    | true => cX f kT
    | false => kSkip) = some w := h
  cases q : t e with
  | none => rw [q] at h0; cases h0
  | some r =>
    rw [q] at h0
    cases r with
    | ex c e2 => cases h0; exact .inr (.inr ⟨_, _, rfl⟩)
    | ok b e2 =>
      cases b with
      | false => cases h0; exact .inl ⟨e2, rfl, rfl⟩
      | true =>
        have h1 : bndS (f e2) kT = some w := h0
        rcases kT_of h1 with ⟨o, e3, x, e4, k1, k2, k3⟩ | k
        · exact .inr (.inl ⟨e2, o, e3, x, e4, rfl, k1, k2, k3⟩)
        · exact .inr (.inr k)
theorem lcT_loop {F : List τ → List Tr → VL.Env → Option (Out O)} {it : τ → VL.Env → Option VL.Env} {E : υ → Tr} {Γs : σ → Ctx} {step : σ → τ → R (Option υ × σ)} (hd : ∀ s, deadOk vs (Γs s) = true)
    (h0 : ∀ acc e, F [] acc e = some (.ok (.b (.tr (.nd .lst acc))) e)) (hF : ∀ x xs acc e, F (x :: xs) acc e = (it x e).bind fun e1 => lcTurn t f vs (F xs) acc e1)
    (hb : ∀ s x, J (Γs s) (fun e => (it x e).bind (cTurn t f)) (step s x) (poT E Γs)) : ∀ (xs : List τ) (acc : List υ) (s : σ) (e : VL.Env), Cov (Γs s) e → ∀ r, lcS (fun s x => (step s x).calm) xs acc s = .ok r →
    ∃ e', F xs (acc.map E) e = some (.ok (.b (.tr (.nd .lst (r.1.map E)))) e') ∧ Cov (Γs r.2) e'
  | [], acc, s, e, he, r, hr => by
    cases hr
    exact ⟨e, h0 _ _, he⟩
  | x :: xs, acc, s, e, he, r, hr => by
    unfold lcS at hr
    have h1 := hb s x e he
    rw [hF]
    cases q : step s x with
    | no => rw [q] at hr; cases hr
    | ex c => rw [q] at hr; cases hr
    | ok p =>
      rw [q] at hr h1
      obtain ⟨y, s'⟩ := p
      obtain ⟨w, h2, h3⟩ := h1
      have h2 : (it x e).bind (cTurn t f) = some w := h2
      cases qi : it x e with
      | none => rw [qi] at h2; cases h2
      | some e1 =>
      rw [qi, Option.bind_some] at h2
      rw [Option.bind_some]
      cases y with
      | none =>
        have hr' : lcS (fun s x => (step s x).calm) xs acc s' = .ok r := hr
        obtain ⟨e', rfl, h5⟩ := h3
        rcases turn_of h2 with ⟨e2, k2, k3⟩ | ⟨e2, o, e3, x', e4, k2, k3, k4, k5⟩ | ⟨c, e1, k⟩
        · cases k3
          obtain ⟨e6, k6, k7⟩ := lcT_loop hd h0 hF hb xs acc s' (forget vs e') (h5.forget vs (hd s')) r hr'
          refine ⟨e6, ?_, k7⟩
          unfold lcTurn
          rw [k2]
          exact k6
        · cases k5
        · cases k
      | some y =>
        have hr' : (if acc.length < big then lcS (fun s x => (step s x).calm) xs (acc ++ [y]) s' else .no) = .ok r := hr
        split at hr'
        · rename_i hl
          obtain ⟨b, e', rfl, h5, h6⟩ := h3
          rcases turn_of h2 with ⟨e2, k2, k3⟩ | ⟨e2, o, e3, x', e4, k2, k3, k4, k5⟩ | ⟨c, e1, k⟩
          · cases k3
          · cases k5
            have h5' : some (B.tr x') = some (B.tr (E y)) := h5
            cases h5'
            obtain ⟨e6, k6, k7⟩ := lcT_loop hd h0 hF hb xs (acc ++ [y]) s' (forget vs e') (h6.forget vs (hd s')) r hr'
            refine ⟨e6, ?_, k7⟩
            unfold lcTurn
            rw [k2]
            dsimp only
            rw [k3]
            dsimp only
            rw [k4, Option.bind_some]
            dsimp only
            rw [List.length_map, if_pos hl]
            rw [List.map_append] at k6
            exact k6
          · cases k
        · cases hr'
theorem lcS_noex (step : σ → τ → R (Option υ × σ)) {c : Str} : ∀ (xs : List τ) (acc : List υ) (s : σ), lcS (fun s x => (step s x).calm) xs acc s ≠ .ex c
  | [], acc, s, h => by cases h
  | x :: xs, acc, s, h => by
    unfold lcS at h
    cases q : step s x with
    | no => rw [q] at h; cases h
    | ex c => rw [q] at h; cases h
    | ok p =>
      rw [q] at h
      obtain ⟨y, s'⟩ := p
      cases y with
      | none => exact lcS_noex step xs acc s' h
      | some y =>
        have h' : (if acc.length < big then lcS (fun s x => (step s x).calm) xs (acc ++ [y]) s' else .no) = .ex c := h
        split at h'
        · exact lcS_noex step xs _ _ h'
        · cases h'
theorem j_lcCore {F : List τ → List Tr → VL.Env → Option (Out O)} {it : τ → VL.Env → Option VL.Env} {E : υ → Tr} {Γs : σ → Ctx} {step : σ → τ → R (Option υ × σ)} {mk : List υ × σ → R α} {xs : List τ} {CC : KC} (s0 : σ) (hl : restr l Γ = Γs s0) (hC : ∀ e, Cov Γ e → CC e = bndS (F xs [] (forget vs e)) K) (hd : ∀ s, deadOk vs (Γs s) = true)
    (h0 : ∀ acc e, F [] acc e = some (.ok (.b (.tr (.nd .lst acc))) e)) (hF : ∀ x xs acc e, F (x :: xs) acc e = (it x e).bind fun e1 => lcTurn t f vs (F xs) acc e1)
    (hb : ∀ s x, J (Γs s) (fun e => (it x e).bind (cTurn t f)) (step s x) (poT E Γs)) (k : ∀ r, J (Γs r.2) (K (.b (.tr (trL E r.1)))) (mk r) po) : J Γ CC ((lcS (fun s x => (step s x).calm) xs [] s0).bind mk) po := fun e he => by
  rw [hC e he]
  cases q : lcS (fun s x => (step s x).calm) xs [] s0 with
  | no => trivial
  | ex c => exact absurd q (lcS_noex step _ _ _)
  | ok r =>
    obtain ⟨e', h1, h2⟩ := lcT_loop hd h0 hF hb xs [] s0 (forget vs e) ((he.of hl).forget vs (hd s0)) r q
    have h3 := k r e' h2
    have h1' : F xs [] (forget vs e) = some (.ok (.b (.tr (.nd .lst (r.1.map E)))) e') := h1
    rw [h1']
    exact h3
theorem j_ofS {step : τ → R (Option υ)} {mk : List υ → R α} {xs : List τ} (h : J Γ C ((lcS (fun (_ : Unit) x => ((step x).bind fun r => R.ok (r, ())).calm) xs [] ()).bind fun r => mk r.1) po) : J Γ C ((lcM (fun x => (step x).calm) xs []).bind mk) po := by
  rw [lcM_S, bind_assoc] at h
  exact h
theorem stepU {CC : KC} {E : υ → Tr} {Γs : Ctx} {step : R (Option υ)} (h : J Γ CC step (poTJ E Γs)) : J Γ CC (step.bind fun r => R.ok (r, ())) (poT E fun _ : Unit => Γs) := fun e he => by
  have h1 := h e he
  cases step with
  | no => trivial
  | ex c => exact h1
  | ok r => cases r <;> exact h1
def cLcT (g : FG) (t : FT) (f : FE) (vs : List Nat) (ds : List PyData) (K : O → KC) : KC := fun e => bndS (fLcTL g t f vs ds [] (forget vs e)) K
theorem j_lcT {g : FG} (k : J Γ (cX fi fun ds => cLcT g t f vs ds K) m po) : J Γ (cX (fLcT fi g t f vs) K) m po := k.eq (funext fun e => by
  show bndS (bnd (fi e) fun ds e1 => fLcTL g t f vs ds [] (forget vs e1)) K = _
  rw [bndS_bnd]
  rfl)
theorem tgt_bind {g : FG} {d : PyData} {CC : KC} : cTgt g d CC = fun e => (g d e).bind CC := funext fun e => by
  unfold cTgt
  cases g d e <;> rfl
theorem j_lcTG {g : FG} {D : τ → PyData} {xs : List τ} {E : υ → Tr} {Γs : σ → Ctx} {step : σ → τ → R (Option υ × σ)} {mk : List υ × σ → R α} (s0 : σ) (h0 : restr l Γ = Γs s0) (hd : ∀ s, deadOk vs (Γs s) = true) (hb : ∀ s x, J (Γs s) (cTgt g (D x) (cTurn t f)) (step s x) (poT E Γs))
    (k : ∀ r, J (Γs r.2) (K (.b (.tr (trL E r.1)))) (mk r) po) : J Γ (cLcT g t f vs (xs.map D) K) ((lcS (fun s x => (step s x).calm) xs [] s0).bind mk) po :=
  j_lcCore (t := t) (f := f) (vs := vs) (F := fun xs acc e => fLcTL g t f vs (xs.map D) acc e) (it := fun x e => g (D x) e) s0 h0 (fun e _ => rfl) hd (fun _ _ => rfl) (fun x xs acc e => by
    show fLcTL g t f vs (D x :: xs.map D) acc e = _
    rw [fLcTL]
    cases g (D x) e <;> rfl) (fun s x => by
    have := hb s x
    rw [tgt_bind] at this
    exact this) k
theorem j_lcTm {g : FG} {D : τ → PyData} {xs : List τ} {E : υ → Tr} {Γs : Ctx} {step : τ → R (Option υ)} {mk : List υ → R α} (h0 : restr l Γ = Γs) (hd : deadOk vs Γs = true) (hb : ∀ x, J Γs (cTgt g (D x) (cTurn t f)) (step x) (poTJ E Γs))
    (k : ∀ r, J Γs (K (.b (.tr (trL E r)))) (mk r) po) : J Γ (cLcT g t f vs (xs.map D) K) ((lcM (fun x => (step x).calm) xs []).bind mk) po :=
  j_ofS (j_lcTG (Γs := fun _ : Unit => Γs) (mk := fun r => mk r.1) () h0 (fun _ => hd) (fun _ x => stepU (hb x)) fun r => k r.1)
theorem j_kTb {tr : Tr} {a : α} (hb : trOf b = some tr) (hp : po a = .rt (.t tr) Γ') (h : restr l Γ = Γ') : J Γ (kT (.b b)) (.ok a) po := fun e he => ⟨.rt (.tr tr) e, by
  show ((trOf b).map fun t => (t, e)).bind _ = _
  rw [hb]
  rfl, by
  rw [hp]
  exact ⟨_, _, rfl, rfl, he.of h⟩⟩
end TM
set_option maxRecDepth 100000
namespace TM
open PySem L2 VL PySem.W PySem.SeqAt
open PySem.W.Datum (toD)
variable {Γ Γ' Γ1 Γ2 Γl Γk : Ctx} {α β σ τ γ δ υ : Type} {m : R α} {po : α → PO} {K : O → KC} {C : KC} {F rest : FS} {l ks : List Nat}
/-- the slots kept -/
def keepS (ks : List Nat) (Γ : Ctx) : Ctx := (List.range Γ.length).map fun j => if j ∈ ks then (Γ[j]?).bind id else none
theorem keep_cov {e : VL.Env} (h : Cov Γ e) : Cov (keepS ks Γ) (mask ks e e.length) := by
  refine ⟨by unfold mask keepS; rw [List.length_map, List.length_range, List.length_map, List.length_range, h.len], fun i s q => ?_⟩
  unfold keepS at q
  rw [List.getElem?_map] at q
  by_cases hi : i < Γ.length
  · rw [List.getElem?_range hi] at q
    have q' : (if i ∈ ks then (Γ[i]?).bind id else none) = some s := by
      have : some (if i ∈ ks then (Γ[i]?).bind id else none) = some (some s) := q
      exact Option.some.inj this
    split at q'
    · rename_i hk
      have q2 : Γ[i]? = some (some s) := by
        cases q3 : Γ[i]? with
        | none => rw [q3] at q'; cases q'
        | some c => rw [q3] at q'; exact congrArg some q'
      have h1 := h.hold i s q2
      have : at? (mask ks e e.length) i = at? e i := by
        unfold at? mask
        rw [List.getElem?_map, List.getElem?_range (by rw [h.len]; exact hi)]
        show (if i ∈ ks then at? e i else none) = at? e i
        rw [if_pos hk]
      rw [this]
      exact h1
    · cases q'
  · rw [List.getElem?_eq_none (by rw [List.length_range]; omega)] at q
    cases q
/-- with an end within -/
def Fl.outL (g : β → R α) (k : R α) : Fl σ β → R α
  | .nx _ => k
  | .bk _ => .no
  | .rt b => g b
@[simp] theorem outL_nx {g : β → R α} {k : R α} {s : σ} : Fl.outL g k (.nx s : Fl σ β) = k := rfl
@[simp] theorem outL_rt {g : β → R α} {k : R α} {b : β} : Fl.outL g k (.rt b : Fl σ β) = g b := rfl
theorem flat_dat {b : B} {x : PyData} (h : (Sl.d x).ok (some b)) (hs : isFlat x = true) : b = .fr x := by
  have h' : b.dat = some x := h
  cases b with
  | fr d => cases h'; rfl
  | ow ds => cases h'; cases hs
  | od ds => cases h'; cases hs
  | ex c => cases h'
  | rs k d => cases h'
  | sc ns => cases h'
  | tr t => cases h'
theorem j_flat {x : PyData} {a : α} (h : restr l Γ = Γ') (hp : po a = .rt (.d x) Γ') : J Γ (fun e => some (.rt (.fr x) e)) (.ok a) po := fun e he => ⟨_, rfl, by
  rw [hp]
  exact ⟨_, _, rfl, rfl, he.of h⟩⟩
end TM
set_option maxRecDepth 100000
namespace TM
open PySem L2 VL PySem.W PySem.SeqAt
open PySem.W.Datum (toD)
end TM
set_option maxRecDepth 100000
namespace TM
open PySem L2 VL PySem.W PySem.SeqAt
open PySem.W.Datum (toD)
variable {Γ Γ' Γ1 : Ctx} {α β σ τ υ : Type} {m m1 m2 : R α} {po : α → PO} {K : O → KC} {C : KC} {i : Nat} {b : B} {o1 o2 : O} {x y : PyData} {fc : FE}
instance : Lay (Int × Int) := ⟨fun p => by
  obtain ⟨a, b⟩ := p
  rfl, by decide⟩
end TM
set_option maxRecDepth 100000
namespace TM
open PySem L2 VL PySem.W PySem.SeqAt
open PySem.W.Datum (toD)
end TM
set_option maxRecDepth 100000
namespace TM
open PySem L2 VL PySem.W Datum
end TM
set_option maxRecDepth 100000
namespace TM
open PySem L2 VL PySem.W Datum
end TM
set_option maxRecDepth 100000
namespace TM
open PySem L2 VL PySem.W PySem.SeqAt
open PySem.W.Datum (toD)
variable {Γ Γ' Γ1 : Ctx} {α β σ τ υ : Type} {m : R α} {po : α → PO} {K : O → KC} {C : KC} {o : O} {x y D V : PyData} {b : B} {i j q : Nat} {f fx : FE} {pm : PM} {rest : FS} {l : List Nat} {ks : List Int} {js : List Nat} {k k0 : Int}
theorem j_ttT (k : J Γ (cX f kT) m po) : J Γ (cTurn tTrue f) m po := k.eq rfl
end TM
set_option maxRecDepth 100000
namespace TM
open PySem L2 VL PySem.W Datum
end TM
set_option maxRecDepth 100000
namespace TM
open PySem L2 VL PySem.W PySem.SeqAt
open PySem.W.Datum (toD)
end TM
set_option maxRecDepth 100000
namespace TM
open PySem L2 VL PySem.W PySem.SeqAt
open PySem.W.Datum (toD)
end TM
set_option maxRecDepth 100000
namespace TM
open PySem L2 VL PySem.W Datum
end TM
set_option maxRecDepth 100000
namespace TM
open PySem L2 VL PySem.W PySem.SeqAt
open PySem.W.Datum (toD)
end TM
set_option maxRecDepth 100000
namespace TM
open PySem L2 VL PySem.W PySem.SeqAt
open PySem.W.Datum (toD)
end TM
set_option maxRecDepth 100000
namespace TM
open PySem L2 VL PySem.W PySem.SeqAt Datum
end TM
set_option maxRecDepth 100000
namespace TM
open PySem L2 VL PySem.W PySem.SeqAt Datum
class KeyTT (κ : Type) [DecidableEq κ] [Datum κ] : Prop where
  isK : ∀ a : κ, isKT (toD a) = true
  keq : ∀ a b : κ, keqT (toD a) (toD b) = decide (a = b)
instance : KeyTT (Int × Int) := ⟨fun _ => rfl, fun a b => by
  show (decide (a.1 = b.1) && (decide (a.2 = b.2) && true)) = _
  rw [Bool.and_true, ← Bool.decide_and]
  exact decide_eq_decide.mpr ⟨fun h => Prod.ext h.1 h.2, fun h => by rw [h]; exact ⟨rfl, rfl⟩⟩⟩
section
variable {κ υ : Type} [DecidableEq κ] [Datum κ] [DecidableEq υ] [Datum υ] [KeyTT κ] {l : List (κ × υ)} {k : κ} {v : υ}
theorem look_eT (l : List (κ × υ)) (k : κ) : lookDT (l.map eD) (toD k) = (lookT l k).map toD := by
  unfold lookDT lookT
  induction l with
  | nil => rfl
  | cons p l ih =>
    rw [List.map_cons, List.find?_cons, List.find?_cons]
    show Option.map _ (match keqT (toD p.1) (toD k) with
      | true => some (eD p)
      | false => _) = _
    rw [KeyTT.keq]
    cases decide (p.1 = k) with
    | true => rfl
    | false => exact ih
theorem any_eT (l : List (κ × υ)) (k : κ) : ((l.map eD).any fun p => keqT p.1 (toD k)) = l.any fun p => decide (p.1 = k) := by
  induction l with
  | nil => rfl
  | cons p l ih =>
    rw [List.map_cons, List.any_cons, List.any_cons, ih]
    show (keqT (toD p.1) (toD k) || _) = _
    rw [KeyTT.keq]
theorem put_eT (l : List (κ × υ)) (k : κ) (v : υ) : putDT (l.map eD) (toD k) (toD v) = (putT l k v).map eD := by
  unfold putDT putT
  rw [any_eT]
  split
  · rw [List.map_map, List.map_map]
    refine List.map_congr_left fun p _ => ?_
    show (if keqT (toD p.1) (toD k) = true then ((eD p).1, toD v) else eD p) = eD (if p.1 = k then (p.1, v) else p)
    rw [KeyTT.keq]
    by_cases h : p.1 = k
    · rw [if_pos (decide_eq_true h), if_pos h]; rfl
    · rw [if_neg (by rw [decide_eq_false h]; decide), if_neg h]
  · rw [List.map_append]
    rfl
end
variable {Γ Γ' : Ctx} {α β : Type} {m : R α} {po : α → PO} {K : O → KC} {o o1 o2 o3 : O} {fa fk fv fx fb : FE} {rest : FS} {x y : PyData} {i : Nat} {C : KC}
variable {κ υ : Type} [DecidableEq κ] [Datum κ] [DecidableEq υ] [Datum υ] [KeyTT κ]
theorem j_tnew (k : J Γ (K (.b (.rs 2 (dD ([] : List (κ × υ)))))) m po) : J Γ (cX fTNew K) m po := k
def cPutT (i : Nat) (o : O) (d : PyData) (C : KC) : KC := fun e => match at? e i with
  | some (.rs 2 (.dict ds)) => (res e o).bind fun k => if isKT k = true ∧ ds.length < big then C (e.set i (some (.rs 2 (.dict (putDT ds k d))))) else none
  | _ => none
def cIsT (i : Nat) (C : KC) : KC := fun e => match at? e i with
  | some (.rs 2 _) => C e
  | _ => none
theorem j_tput (k : J Γ (cX fv fun o => cFz o fun d => cIsT i (cX fx fun o => cPutT i o d rest)) m po) : J Γ (sSeq (sTPut i fx fv) rest) m po := k.eq (funext fun e => by
  show thn (bndS (fv e) fun o e1 => (fz e1 o).bind fun p => match at? p.2 i with
    | some (.rs 2 _) => bndS (fx p.2) fun o2 e2 => match at? e2 i with
      | some (.rs 2 (.dict ds)) => (res e2 o2).bind fun k => if isKT k = true ∧ ds.length < big then some (SO.nx (e2.set i (some (.rs 2 (.dict (putDT ds k p.1)))))) else none
      | _ => none
    | _ => none) rest = _
  rw [thn_bndS]
  refine congrArg _ (funext fun a => funext fun e1 => ?_)
  rw [thn_ob]
  refine congrArg _ (funext fun p => ?_)
  show _ = cIsT i (cX fx fun o => cPutT i o p.1 rest) p.2
  unfold cIsT
  split
  · rename_i d q
    rw [thn_bndS]
    show _ = bndS (fx p.2) _
    refine congrArg _ (funext fun a2 => funext fun e2 => ?_)
    unfold cPutT
    split
    · rw [thn_ob]
      refine congrArg _ (funext fun k => ?_)
      split <;> rfl
    · rfl
  · rfl)
theorem j_ist {C : KC} (h : Γ[i]? = some (some (.rs 2 x))) (k : J Γ C m po) : J Γ (cIsT i C) m po := k.to fun e he => ⟨e, he, by
  have h1 : at? e i = some (.rs 2 x) := he.hold i _ h
  show (match at? e i with
    | some (.rs 2 _) => C e
    | _ => none) = C e
  rw [h1]
  rfl⟩
theorem j_tputop {l : List (κ × υ)} {k : κ} {v : υ} {mk : List (κ × υ) → R α} (h : Γ[i]? = some (some (.rs 2 (dD l)))) (ho : Rd Γ o (toD k)) (kk : ∀ a, J (Γ.set i (some (.rs 2 (dD a)))) C (mk a) po) : J Γ (cPutT i o (toD v) C) (ob (putG l k v) mk) po := j_ob fun a ha => (kk a).to fun e he => by
  unfold putG at ha
  split at ha
  · rename_i hl
    cases ha
    have h1 : at? e i = some (.rs 2 (dD l)) := he.hold i _ h
    refine ⟨e.set i (some (.rs 2 (.dict (putDT (l.map eD) (toD k) (toD v))))), he.set (s := .rs 2 (dD (putT l k v))) (by rw [put_eT]; rfl), ?_⟩
    unfold cPutT
    rw [h1]
    show ((res e o).bind fun k => if isKT k = true ∧ (l.map eD).length < big then C (e.set i (some (.rs 2 (.dict (putDT (l.map eD) k (toD v)))))) else none) = _
    rw [ho e he, Option.bind_some, if_pos ⟨KeyTT.isK k, by rw [List.length_map]; exact hl⟩]
  · cases ha
def augLL (l : List (List Int)) (a b v : Int) : Option (List (List Int)) := (ixN l.length a).bind fun j => (l[j]?).bind fun r => (augL r b v).map fun r' => l.set j r'
theorem kO_out {f : FE} {v : PyData} (h : J Γ (cX f kO) (.ok ()) fun _ => .rt (.d v) Γ) {e : VL.Env} (he : Cov Γ e) : ∃ o e', f e = some (.ok o e') ∧ res e' o = some v ∧ Cov Γ e' := by
  obtain ⟨w, q1, b, e', rfl, q2, q3⟩ := h e he
  have q1' : bndS (f e) kO = some (.rt b e') := q1
  cases q : f e with
  | none => rw [q] at q1'; cases q1'
  | some r =>
    rw [q] at q1'
    cases r with
    | ex c e1 => cases q1'
    | ok o3 e1 =>
      have q5 : kO o3 e1 = some (.rt b e') := q1'
      unfold kO at q5
      split at q5
      · rename_i d qd
        cases q5
        have q2' : (some d : Option PyData) = some v := q2
        cases q2'
        exact ⟨o3, _, rfl, qd, q3⟩
      · cases q5
theorem j_augLL {ll : List (List Int)} {a b v : Int} {fa : FE} {mk : List (List Int) → R α} (hx : Γ[i]? = some (some (.t (trL (trL frD) ll)))) (ha : J (Γ.set i none) (cX fa kO) (.ok ()) fun _ => .rt (.d (toD a)) (Γ.set i none))
    (hb : J (Γ.set i none) (cX fx kO) (.ok ()) fun _ => .rt (.d (toD b)) (Γ.set i none)) (hv : J (Γ.set i none) (cX fv kO) (.ok ()) fun _ => .rt (.d (toD v)) (Γ.set i none)) (k : ∀ l', J (Γ.set i (some (.t (trL (trL frD) l')))) rest (mk l') po) :
    J Γ (sSeq (sAugP i (pmIx pmN fa) (opI0 fun i j => i + j) fx fv) rest) (ob (augLL ll a b v) mk) po := j_ob fun l' hl => (k l').to fun e he => by
  have h1 : at? e i = some (.tr (trL (trL frD) ll)) := he.hold i _ hx
  obtain ⟨o1, e1, a1, a2, a3⟩ := kO_out ha (he.drop i none)
  obtain ⟨o2, e2, b1, b2, b3⟩ := kO_out hb a3
  obtain ⟨o3, e3, c1, c2, c3⟩ := kO_out hv b3
  unfold augLL at hl
  cases qj : ixN ll.length a with
  | none => rw [qj] at hl; cases hl
  | some j =>
  rw [qj, Option.bind_some] at hl
  cases qr : ll[j]? with
  | none => rw [qr] at hl; cases hl
  | some r =>
  rw [qr, Option.bind_some] at hl
  obtain ⟨r', hr', rfl⟩ := Option.map_eq_some_iff.mp hl
  unfold augL at hr'
  cases qk : ixN r.length b with
  | none => rw [qk] at hr'; cases hr'
  | some t =>
  rw [qk, Option.bind_some] at hr'
  obtain ⟨old, ho, rfl⟩ := Option.map_eq_some_iff.mp hr'
  have hlt : i < Γ.length := (List.getElem?_eq_some_iff.mp hx).1
  refine ⟨e3.set i (some (.tr (trL (trL frD) (ll.set j (r.set t (old + v)))))), ?_, ?_⟩
  · have := c3.set (i := i) (s := .t (trL (trL frD) (ll.set j (r.set t (old + v))))) (b := some (.tr (trL (trL frD) (ll.set j (r.set t (old + v)))))) rfl
    rwa [List.set_set] at this
  · show (match sAugP i (pmIx pmN fa) (opI0 fun i j => i + j) fx fv e with
      | some (.nx e1) => rest e1
      | r => r) = _
    have key : sAugP i (pmIx pmN fa) (opI0 fun i j => i + j) fx fv e = some (.nx (e3.set i (some (.tr (trL (trL frD) (ll.set j (r.set t (old + v)))))))) := by
      unfold sAugP
      rw [h1]
      show bndS (pmIx pmN fa (trL (trL frD) ll) (e.set i none)) _ = _
      have hp : pmIx pmN fa (trL (trL frD) ll) (e.set i none) = some (.ok [j] e1) := by
        show VL.bnd (fa (e.set i none)) _ = _
        rw [a1]
        show (match res e1 o1 with
          | some (.int k) => ((trL (trL frD) ll).sub []).bind fun s => (s.ix k).bind fun j => some (Out.ok ([] ++ [j]) e1)
          | _ => none) = _
        rw [a2]
        show (((trL (trL frD) ll).sub []).bind fun s => (s.ix a).bind fun j => some (Out.ok ([] ++ [j]) e1)) = _
        rw [Tr.sub, Option.bind_some]
        show ((ixN (ll.map (trL frD)).length a).bind fun j => some (Out.ok ([] ++ [j]) e1)) = _
        rw [List.length_map, qj]
        rfl
      rw [hp]
      show (match (trL (trL frD) ll).sub [j] with
        | some (.nd .lst ts) => _
        | _ => none) = _
      have hs : (trL (trL frD) ll).sub [j] = some (.nd .lst (r.map frD)) := by
        show ((ll.map (trL frD))[j]?.bind fun t => t.sub []) = _
        rw [List.getElem?_map, qr]
        show (trL frD r).sub [] = _
        rw [Tr.sub]
        rfl
      rw [hs]
      dsimp only
      rw [b1]
      show (match res e2 o2 with
        | some (.int k) => _
        | _ => none) = _
      rw [b2]
      show ((ixN (r.map frD).length b).bind _) = _
      rw [List.length_map, qk, Option.bind_some, List.getElem?_map, ho]
      show bndS (fv e2) _ = _
      rw [c1]
      show ((res e3 o3).bind _) = _
      rw [c2, Option.bind_some]
      show (((trL (trL frD) ll).put [j] (.nd .lst ((r.map frD).set t (.fr (.int (old + v)))))).bind fun t' => some (SO.nx (e3.set i (some (.tr t'))))) = _
      have hput : (trL (trL frD) ll).put [j] (.nd .lst ((r.map frD).set t (.fr (.int (old + v))))) = some (trL (trL frD) (ll.set j (r.set t (old + v)))) := by
        show ((ll.map (trL frD))[j]?.bind fun t1 => (t1.put [] (.nd .lst ((r.map frD).set t (.fr (.int (old + v)))))).map fun t' => Tr.nd Nd.lst ((ll.map (trL frD)).set j t')) = _
        rw [List.getElem?_map, qr, Option.map_some, Option.bind_some, Tr.put]
        show some (Tr.nd Nd.lst ((ll.map (trL frD)).set j (.nd .lst ((r.map frD).set t (.fr (.int (old + v))))))) = _
        congr 1
        show _ = Tr.nd Nd.lst ((ll.set j (r.set t (old + v))).map (trL frD))
        rw [List.map_set]
        congr 2
        show _ = Tr.nd Nd.lst ((r.set t (old + v)).map frD)
        rw [List.map_set]
        rfl
      rw [hput]
      rfl
    rw [key]
end TM
set_option maxRecDepth 100000
namespace TM
open PySem L2 VL PySem.W PySem.SeqAt Datum
end TM
set_option maxRecDepth 100000
namespace TM
open PySem L2 VL PySem.W PySem.SeqAt Datum
instance : Lay (List (Int × Int)) := ⟨lay_lst, by decide⟩
instance : Lay (Option (List Int)) := ⟨fun o => by
  cases o with
  | none => rfl
  | some l => exact Lay.lay l, by decide⟩
variable {Γ : Ctx} {α τ : Type} {po : α → PO} {K : O → KC} {i : Nat} {m0 : R α}
end TM
set_option maxRecDepth 100000
namespace TM
open PySem L2 VL PySem.W PySem.SeqAt Datum
variable {Γ Γ' : Ctx} {α β : Type} {m : R α} {po : α → PO} {K : O → KC} {KI : List PyData → KC} {fa : FE} {x : PyData} {i : Nat}
variable {κ υ : Type} [DecidableEq κ] [Datum κ] [DecidableEq υ] [Datum υ]
instance : Lay (Int × List Int) := ⟨fun p => by
  show (PyData.tuple [.int p.1, toD p.2]).canLay0 = true
  rw [PyData.canLay0, PyData.canLayAll0, PyData.canLayAll0, PyData.canLayAll0, Lay.lay p.2]
  simp [PyData.canLay0], by decide⟩
instance : Lay (List (Int × List Int)) := ⟨lay_lst, by decide⟩
theorem j_frzT (h : Γ[i]? = some (some (.rs 2 x))) (kk : J (Γ.set i (some (.rs 3 x))) (cX fa K) m po) : J Γ (cX (fFrzT i fa) K) m po := kk.to fun e he => ⟨e.set i (some (.rs 3 x)), he.set rfl, by
  have h1 : at? e i = some (.rs 2 x) := he.hold i _ h
  show bndS (fFrzT i fa e) K = _
  unfold fFrzT
  rw [h1]
  rfl⟩
theorem j_iValsT {l : List (κ × υ)} (h : Γ[i]? = some (some (.rs 3 (dD l)))) (kk : J Γ (KI ((l.map (·.2)).map toD)) m po) : J Γ (cX (iValsT i) KI) m po := kk.to fun e he => ⟨e, he, by
  have h1 : at? e i = some (.rs 3 (dD l)) := he.hold i _ h
  show bndS (iValsT i e) KI = _
  unfold iValsT
  rw [h1]
  show KI ((l.map eD).map (·.2)) e = _
  rw [List.map_map, List.map_map]
  rfl⟩
end TM
set_option maxRecDepth 100000
namespace TM
open PySem L2 VL PySem.W PySem.SeqAt Datum
end TM
set_option maxRecDepth 100000
namespace TM
open PySem L2 VL PySem.W PySem.SeqAt Datum
end TM
set_option maxRecDepth 100000
namespace TM
open PySem L2 VL PySem.W PySem.SeqAt Datum
end TM
set_option maxRecDepth 100000
namespace TM
open PySem L2 VL PySem.W PySem.SeqAt Datum PyProof.Rows
end TM
set_option maxRecDepth 100000
namespace TM
open PySem L2 VL PySem.W PySem.SeqAt Datum
end TM
set_option maxRecDepth 100000
namespace TM
open PySem L2 VL PySem.W PySem.SeqAt Datum PyProof.Rows
instance : Lay (Option (Int × List Int)) := ⟨fun o => by
  cases o with
  | none => rfl
  | some a => exact Lay.lay a, by decide⟩
end TM
set_option maxRecDepth 100000
namespace VL
open PySem L2 PySem.Spec PyProof.Rows
open PySem.SeqAt (shaped)
open PySem.W (minD)
end VL
set_option maxRecDepth 100000
namespace VL
open PySem L2
end VL
set_option maxRecDepth 100000
namespace TM
open PySem L2 VL PySem.W PySem.SeqAt Datum
end TM
set_option maxRecDepth 100000
namespace VL
open PySem L2 PySem.Spec PyProof.Rows
end VL
set_option maxRecDepth 100000
namespace VL
open PySem L2
def lentI (c : Str) (fs : List Str) : Option B → Option B
  | some (.tr (.nd (.ins c' fs') ts)) => if c' = c ∧ fs' = fs then (Tr.dats ts).map fun ds => .rs 9 (.tuple ds) else none
  | _ => none
/-- all lent, the instance in the first slot too -/
def lendS (c : Str) (fs : List Str) : Env → Env
  | [] => []
  | b :: e => lentI c fs b :: lendE e
end VL
set_option maxRecDepth 100000
namespace VL
open PySem L2
/-- a method that may be called -/
structure CalM (X : Cx) (ρ : Nat → Res) (c m : Str) (n : Nat) (ms : List Nat) (F : Fn) (k : Nat) : Prop where
  ex : ∃ A f fd ps, X.mg c = some (.ref A) ∧ Cls X.K A ∧ Meth X.K A m f ∧ FnG X.prog X.w X.K X.mg X.base k f fd ps (spV (cc X ρ) n ms F) ∧ Binds X.K fd ps []
/-- a class that may be made -/
structure CalC (X : Cx) (ρ : Nat → Res) (c : Str) (n : Nat) (F : Fn) (k : Nat) : Prop where
  ex : ∃ A f fd ps, X.mg c = some (.ref A) ∧ Cls X.K A ∧ Mk X.K A f ∧ FnG X.prog X.w X.K X.mg X.base k f fd ps (spV (cc X ρ) (n + 1) [0] F) ∧ Binds X.K fd ps []
end VL
set_option maxRecDepth 100000
namespace VL
open PySem L2
end VL
set_option maxRecDepth 100000
namespace VL
open PySem L2 PySem.Spec PyProof.Rows
section
variable {P : Program} {w : World} {K : PySem.W.Frag} {mg : Str → Option Value} {base : Heap} {ρ : Nat → Res}
structure CalN (P : Program) (w : World) (K : PySem.W.Frag) (mg : Str → Option Value) (base : Heap) (ρ : Nat → Res) (c m : Str) (n : Nat) (ms : List Nat) (F : Fn) (k : Nat) : Prop where
  ex : ∃ A f fd ps, mg c = some (.ref A) ∧ Cls K A ∧ Meth K A m f ∧ FnG P w K mg base k f fd ps (spV ⟨K, mg, ρ⟩ n ms F) ∧ Binds K fd ps []
theorem CalN.c {X : Cx} {c m : Str} {n : Nat} {ms : List Nat} {F : Fn} {k : Nat} (h : CalN X.prog X.w X.K X.mg X.base ρ c m n ms F k) : CalM X ρ c m n ms F k := ⟨h.ex⟩
structure CalI (P : Program) (w : World) (K : PySem.W.Frag) (mg : Str → Option Value) (base : Heap) (ρ : Nat → Res) (c : Str) (n : Nat) (F : Fn) (k : Nat) : Prop where
  ex : ∃ A f fd ps, mg c = some (.ref A) ∧ Cls K A ∧ Mk K A f ∧ FnG P w K mg base k f fd ps (spV ⟨K, mg, ρ⟩ (n + 1) [0] F) ∧ Binds K fd ps []
theorem CalI.c {X : Cx} {c : Str} {n : Nat} {F : Fn} {k : Nat} (h : CalI X.prog X.w X.K X.mg X.base ρ c n F k) : CalC X ρ c n F k := ⟨h.ex⟩
end
end VL
set_option maxRecDepth 100000
namespace VL
open PySem L2
/-- a Lister's attributes -/
def lsF : List Str := ["way", "things", "far", "held", "deeds"]
end VL
set_option maxRecDepth 100000
namespace VL
open PySem L2
end VL
set_option maxRecDepth 100000
namespace VL
open PySem L2
end VL
set_option maxRecDepth 100000
namespace VL
open PySem L2
end VL
set_option maxRecDepth 100000
namespace VL
open PySem L2
end VL
set_option maxRecDepth 100000
namespace TM
open PySem L2 VL PySem.W PySem.SeqAt
open PySem.W.Datum (toD)
/-- a Lister, by its attributes -/
structure Ls where
  way : Str
  things : Int
  far : Int
  held : List (List Int)
  deeds : List (Bool × List Int)
def Ls.tr (s : Ls) : Tr := .nd (.ins "Lister" lsF) [.fr (toD s.way), .fr (toD s.things), .fr (toD s.far), .nd .lst ((s.held.map toD).map .fr), .nd .lst ((s.deeds.map toD).map .fr)]
instance : Lay (Bool × List Int) := ⟨fun p => by
  show (PyData.tuple [.bool p.1, toD p.2]).canLay0 = true
  rw [PyData.canLay0, PyData.canLayAll0, PyData.canLayAll0, PyData.canLayAll0, Lay.lay p.2]
  simp [PyData.canLay0], by decide⟩
instance : Lay (List (Bool × List Int)) := ⟨lay_lst, by decide⟩
inductive LdS (c : Str) (fs : List Str) : Ctx → Ctx → Prop
  | mk {ts : List Tr} {ds : List PyData} {Γ Γ' : Ctx} (hd : Tr.dats ts = some ds) (k : LdC Γ Γ') : LdS c fs (some (.t (.nd (.ins c fs) ts)) :: Γ) (some (.rs 9 (.tuple ds)) :: Γ')
variable {Γ Γ' Γ1 Γ2 Γl : Ctx} {α β σ τ γ δ υ : Type} {m : R α} {po : α → PO} {K : O → KC} {C : KC} {o o1 o2 o3 : O} {x y : PyData} {b z : B} {i j n q : Nat} {f fa fb fc fx fy fv : FE} {fd : FD} {t : FT} {rest A : FS} {fi : FI} {l vs : List Nat} {a : α} {c mn : Str} {fs gs : List Str} {ts : List Tr} {ds : List PyData} {F : Fn} {r : FA} {mi : List (Nat × Nat)}
theorem LdS.cov {Γ Γ' : Ctx} (h : LdS c fs Γ Γ') {e : VL.Env} (he : Cov Γ e) : Cov Γ' (lendS c fs e) := by
  cases h with
  | mk hd k =>
    cases e with
    | nil => have := he.len; simp at this
    | cons b e =>
      obtain ⟨h1, h2⟩ := cov_cons he
      have hb : b = some (.tr _) := h1 _ rfl
      subst hb
      refine cov_mk (fun s' q => ?_) (k.cov h2)
      cases q
      show (if c = c ∧ fs = fs then (Tr.dats _).map fun ds => B.rs 9 (.tuple ds) else none) = _
      rw [if_pos ⟨rfl, rfl⟩, hd]
      rfl
end TM
set_option maxRecDepth 100000
namespace TM
open PySem L2 VL PySem.W PySem.SeqAt
open PySem.W.Datum (toD)
end TM
set_option maxRecDepth 100000
namespace TM
open PySem L2 VL PySem.W PySem.SeqAt
open PySem.W.Datum (toD)
variable {Γ Γ' Γ1 : Ctx} {α β σ τ : Type} {m : R α} {po : α → PO} {K : O → KC} {f : FE} {rest : FS}
instance : Lay (List (Option Int)) := ⟨lay_lst, by decide⟩
end TM
set_option maxRecDepth 100000
namespace VL
open PySem L2 PySem.Spec PyProof.Rows
end VL
set_option maxRecDepth 100000
namespace TM
open PySem L2 VL PySem.W PySem.SeqAt
open PySem.W.Datum (toD)
end TM
set_option maxRecDepth 100000
namespace VL
open PySem L2 PySem.Spec PyProof.Rows
end VL
set_option maxRecDepth 100000
namespace VL
open PySem L2 PySem.Spec PyProof.Rows
end VL
set_option maxRecDepth 100000
namespace TM
open PySem L2 VL PySem.W PySem.SeqAt Datum
end TM
set_option maxRecDepth 100000
namespace TM
open PySem L2 VL PySem.W PySem.SeqAt
open PySem.W.Datum (toD)
variable {Γ : Ctx} {α : Type} {po : α → PO} {K : O → KC} {i j : Nat} {m : R α} {f : FE} {b : B} {o : O} {rest : FS} {d : PyData} {ds : List PyData}
theorem frsT_map : ∀ l : List PyData, frsT (l.map .fr) = some l
  | [] => rfl
  | d :: l => by
    rw [List.map_cons, frsT, frsT_map l]
    rfl
end TM
set_option maxRecDepth 100000
namespace TM
open PySem L2 VL PySem.W PySem.SeqAt
open PySem.W.Datum (toD)
end TM
set_option maxRecDepth 100000
namespace VL
open PySem PySem.Spec PyProof.Rows PySem.Calls PySem.SeqAt L2
end VL
set_option maxRecDepth 100000
namespace TM
open PySem L2 VL PySem.W PySem.SeqAt Datum
end TM
set_option maxRecDepth 100000
namespace VL
open PySem L2 PySem.Spec PyProof.Rows PySem.Calls
section
variable {X : Cx} {ρ : Nat → Res} {W : WX} {pn : List Nat} {a b : Expr} {pos p2 ps apos cpos p : Pos} {fx fv fk : FE}
theorem fzt_of {C : Cc} (hρ : C.rho 3 = FZT) {π : List (Nat × V)} {e : Env} {σ : L2.St} {w : WS} {i : Nat} {d : PyData} (m : Mt C π e σ w) (h : at? e i = some (.rs 3 d)) :
    ∃ p od ks ds, σ[i]? = some (some (.ref p)) ∧ w.G p = some (.frz od (.dT ks)) ∧ w.H p = some (.frz od (.dT ks)) ∧ d = .dict ds ∧ RpDT C.K w.G ks ds := by
  obtain ⟨v, h1, h2⟩ := m.bok i _ h
  have h3 : FZT.rep C.K w.G w.H v d (w.fp i) := by
    have : (C.rho 3).rep C.K w.G w.H v d (w.fp i) := h2
    rwa [hρ] at this
  obtain ⟨p, od, ks, ds, rfl, g1, g2, g3, _⟩ := h3
  exact ⟨p, od, ks, ds, h1, g1, m.sub _ _ g1, g2, g3⟩
theorem DGet.f {H : Hp} {a b : Addr} {od : Obj} {kvs : List (List Key × V)} {k : List Key} (e : H a = some (.frz od (.dT kvs))) (eb : H b = some (.tup (k.map kV))) : DGet H a (.ref b) (valV kvs k) := .inr ⟨kvs, k, b, .inr ⟨od, e⟩, rfl, eb, rfl⟩
end
section
variable {X : Cx} {ρ : Nat → Res} {W : WX}
theorem RpDT.at {K : PySem.W.Frag} {G : Hp} : ∀ {ks : List (List Key × V)} {ds : DKv}, RpDT K G ks ds → ∀ {i : Nat} {k : List Key} {v : V}, ks[i]? = some (k, v) → ∃ d, (kPT k, d) ∈ ds
  | _, _, .nil, _, _, _, h => by simp at h
  | _, _, .cons (d := d) _ t, 0, _, _, h => by cases h; exact ⟨d, List.mem_cons_self⟩
  | _, _, .cons _ t, i + 1, _, _, h => by
    obtain ⟨d, hd⟩ := t.at (i := i) (by simpa using h)
    exact ⟨d, List.mem_cons_of_mem _ hd⟩
end
end VL
namespace VL
open PySem L2 PySem.Spec PyProof.Rows PySem.Calls
end VL
set_option maxRecDepth 100000
namespace VL
open PySem L2 PySem.Spec PyProof.Rows PySem.Calls
end VL
set_option maxRecDepth 100000
namespace VL
open PySem L2
end VL
set_option maxRecDepth 100000
namespace VL
open PySem L2
end VL
set_option maxRecDepth 100000
namespace VL
open PySem PySem.Spec PyProof.Rows L2
end VL
set_option maxRecDepth 100000
namespace VL
open PySem L2
end VL
set_option maxRecDepth 100000
namespace VL
open PySem L2
end VL
set_option maxRecDepth 100000
set_option maxHeartbeats 2000000
namespace VL
open PySem L2 PySem.Spec PyProof.Rows
end VL
set_option maxRecDepth 100000
namespace VL
open PySem L2
end VL
set_option maxRecDepth 100000
set_option maxHeartbeats 2000000
namespace VL
open PySem L2
section
variable {C : Cc} {π : List (Nat × V)} {e e1 : Env} {σ : St} {w w0 w1 w4 : WS} {i k : Nat}
theorem TAll.swap {G H : Hp} : ∀ {ts : List Tr} {xs : List V} {as : List Addr} {k : Nat} {t : Tr}, TAll C G H ts xs as → ts[k]? = some t → ∃ x a1 bs a2, xs[k]? = some x ∧ as = a1 ++ bs ++ a2 ∧ TOk C G H t x bs ∧
    ∀ {G' H' : Hp} {t' : Tr} {bs' : List Addr}, Same G G' → (∀ a ∈ a1 ++ a2, H' a = H a ∧ G' a = G a) → TOk C G' H' t' x bs' → TAll C G' H' (ts.set k t') xs (a1 ++ bs' ++ a2)
  | _, _, _, k, t, .nil, h => by simp at h
  | _, _, _, 0, t, .cons (as := as) (bs := bs) h1 h2, h => by
    rw [List.getElem?_cons_zero] at h
    cases h
    refine ⟨_, [], as, bs, rfl, by simp, h1, fun {G' H' t' bs'} sG hk h3 => ?_⟩
    rw [List.set_cons_zero, List.nil_append]
    exact .cons h3 (h2.mono sG fun a ha => hk a (by simpa using ha))
  | _, _, _, k + 1, t, .cons (as := as) (bs := bs) h1 h2, h => by
    rw [List.getElem?_cons_succ] at h
    obtain ⟨x, a1, b, a2, g1, g2, g3, g4⟩ := TAll.swap h2 h
    refine ⟨x, as ++ a1, b, a2, by rw [List.getElem?_cons_succ]; exact g1, by rw [g2]; simp, g3, fun {G' H' t' bs'} sG hk h3 => ?_⟩
    rw [List.set_cons_succ, List.append_assoc, List.append_assoc, ← List.append_assoc a1]
    exact .cons (h1.mono sG fun a ha => hk a (by simp [ha])) (g4 sG (fun a ha => hk a (by
      rcases List.mem_append.mp ha with z | z
      · simp [z]
      · simp [z])) h3)
/-- the part at k taken out of the instance that slot i held: a slot of its own -/
structure Sub (C : Cc) (w0 w : WS) (i k : Nat) (c : Str) (fs : List Str) (ts : List Tr) (v0 : V) (t : Tr) (v : V) (a1 bs a2 : List Addr) : Prop where
  all : ∃ p dx A xs, v0 = .ref p ∧ C.mg c = some (.ref A) ∧ w.H p = some (.ins A dx (fs.zip xs)) ∧ xs[k]? = some v ∧ fs.length = xs.length ∧ Hid w (p :: dx :: (a1 ++ bs ++ a2)) ∧ (∀ a ∈ p :: dx :: (a1 ++ bs ++ a2), w0.H a = none ∨ ∃ j, w0.fp j a) ∧ TOk C w.G w.H t v bs ∧
    ∀ {G' H' : Hp} {t' : Tr} {bs' : List Addr}, Same w.G G' → (∀ a ∈ p :: dx :: (a1 ++ a2), H' a = w.H a ∧ G' a = w.G a) → TOk C G' H' t' v bs' → TOk C G' H' (.nd (.ins c fs) (ts.set k t')) v0 (p :: dx :: (a1 ++ bs' ++ a2))
/-- given back: the instance with the part as it is now -/
theorem Sub.give {c : Str} {fs : List Str} {ts : List Tr} {v0 v : V} {t t' : Tr} {a1 bs a2 : List Addr} {w' : WS} (S : Sub C w0 w4 i k c fs ts v0 t v a1 bs a2) (f0 : Frm w0 w4) (hv : σ[i]? = some (some v0)) (hπ : ∀ q ∈ π, q.1 < σ.length)
    (m' : Mt C π (e1 ++ [some (.tr t')]) (σ ++ [some v]) w') (f' : Frm (w4.push e1.length fun a => a ∈ bs) w') :
    ∃ w'', Mt C π (e1.set i (some (.tr (.nd (.ins c fs) (ts.set k t'))))) σ w'' ∧ Frm w0 w'' ∧ w''.H = w'.H ∧ w''.G = w'.G ∧ ∀ (o : B) (z : V), OOk C (σ ++ [some v]) (w4.push e1.length fun a => a ∈ bs) w' (.b o) z → OOk C σ w0 w'' (.b o) z := by
  obtain ⟨p, dx, A, xs, rfl, q1, q2, q3, q4, hid, so, tkS, mk⟩ := S.all
  have hl : e1.length = σ.length := by simpa using m'.len
  have nd := hid.nd
  have ndc : (a1 ++ bs ++ a2).Nodup := (List.nodup_cons.mp (List.nodup_cons.mp nd).2).2
  -- what is of the rest is hidden in the call
  have rest : ∀ a ∈ p :: dx :: (a1 ++ a2), a ∈ p :: dx :: (a1 ++ bs ++ a2) ∧ a ∉ bs := fun a ha => by
    rcases List.mem_cons.mp ha with rfl | ha
    · exact ⟨List.mem_cons_self, fun z => (List.nodup_cons.mp nd).1 (List.mem_cons_of_mem _ (by simp [z]))⟩
    · rcases List.mem_cons.mp ha with rfl | ha
      · exact ⟨List.mem_cons_of_mem _ List.mem_cons_self, fun z => (List.nodup_cons.mp (List.nodup_cons.mp nd).2).1 (by simp [z])⟩
      · obtain ⟨d1, d2, d3⟩ := List.nodup_append.mp ndc
        obtain ⟨d4, d5, d6⟩ := List.nodup_append.mp d1
        rcases List.mem_append.mp ha with ha | ha
        · exact ⟨by simp [ha], fun z => d6 a ha a z rfl⟩
        · exact ⟨by simp [ha], fun z => d3 a (by simp [z]) a ha rfl⟩
  have hidp : ∀ a ∈ p :: dx :: (a1 ++ a2), w'.H a = w4.H a ∧ w'.G a = w4.G a ∧ ∀ j, ¬ w'.fp j a := fun a ha => by
    obtain ⟨h1, h2⟩ := rest a ha
    obtain ⟨o, ho⟩ := hid.h a h1
    obtain ⟨g1, g2, g3⟩ := f'.k a o ho fun j z => by
      have z : (if j = e1.length then a ∈ bs else w4.fp j a) := z
      by_cases hj : j = e1.length
      · rw [if_pos hj] at z; exact h2 z
      · rw [if_neg hj] at z; exact hid.n a h1 j z
    exact ⟨g1.trans ho.symm, g2, g3⟩
  obtain ⟨vv, u1, u2⟩ := m'.bok e1.length (.tr t') (by rw [at_push, if_pos rfl])
  have e9 : (σ ++ [some v])[e1.length]? = some (some v) := by rw [hl, List.getElem?_append_right (Nat.le_refl _)]; simp
  rw [e9] at u1
  cases u1
  obtain ⟨as', tk', nd', has'⟩ : ∃ as', TOk C w'.G w'.H t' v as' ∧ as'.Nodup ∧ ∀ a, w'.fp e1.length a ↔ a ∈ as' := u2
  have tkN := mk (G' := w'.G) (H' := w'.H) f'.g (fun a ha => ⟨(hidp a ha).1, (hidp a ha).2.1⟩) tk'
  have mp := Mt.pop m' hπ
  have inN : ∀ a, a ∈ p :: dx :: (a1 ++ as' ++ a2) → a ∈ p :: dx :: (a1 ++ a2) ∨ a ∈ as' := fun a ha => by
    simp only [List.mem_cons, List.mem_append] at ha ⊢
    rcases ha with h | h | (h | h) | h
    · exact .inl (.inl h)
    · exact .inl (.inr (.inl h))
    · exact .inl (.inr (.inr (.inl h)))
    · exact .inr h
    · exact .inl (.inr (.inr (.inr h)))
  have hidN : Hid (w'.pop e1.length) (p :: dx :: (a1 ++ as' ++ a2)) := by
    refine ⟨?_, fun a ha => ?_, fun a ha => ?_, fun a ha j z => ?_⟩
    · have dis : ∀ a ∈ p :: dx :: (a1 ++ a2), a ∉ as' := fun a ha z => (hidp a ha).2.2 e1.length ((has' a).mpr z)
      have nd0 : (p :: dx :: (a1 ++ a2)).Nodup := nd.sublist (List.Sublist.cons_cons p (List.Sublist.cons_cons dx (List.Sublist.append_right (List.sublist_append_left a1 bs) a2)))
      have nd1 := (List.nodup_cons.mp nd0)
      have nd2 := (List.nodup_cons.mp nd1.2)
      obtain ⟨d1, d2, d3⟩ := List.nodup_append.mp nd2.2
      refine List.nodup_cons.mpr ⟨fun z => ?_, List.nodup_cons.mpr ⟨fun z => ?_, ?_⟩⟩
      · rcases inN p (List.mem_cons_of_mem _ z) with y | y
        · rcases List.mem_cons.mp z with rfl | z
          · exact nd1.1 List.mem_cons_self
          · simp only [List.mem_append] at z
            rcases z with (z | z) | z
            · exact nd1.1 (List.mem_cons_of_mem _ (by simp [z]))
            · exact dis p List.mem_cons_self z
            · exact nd1.1 (List.mem_cons_of_mem _ (by simp [z]))
        · exact dis p List.mem_cons_self y
      · simp only [List.mem_append] at z
        rcases z with (z | z) | z
        · exact nd2.1 (by simp [z])
        · exact dis dx (List.mem_cons_of_mem _ List.mem_cons_self) z
        · exact nd2.1 (by simp [z])
      · refine List.nodup_append.mpr ⟨List.nodup_append.mpr ⟨d1, nd', fun a ha b hb z => ?_⟩, d2, fun a ha b hb z => ?_⟩
        · subst z
          exact dis a (by simp [ha]) hb
        · subst z
          rcases List.mem_append.mp ha with ha | ha
          · exact d3 a ha a hb rfl
          · exact dis a (by simp [hb]) ha
    · exact (tkN.own a ha).1
    · exact (tkN.own a ha).2
    · rcases inN a ha with y | y
      · exact (hidp a y).2.2 j z.2
      · have := m'.dis j e1.length a z.2 ((has' a).mpr y)
        exact z.1 this
  have fw : Frm w0 (w'.pop e1.length) := by
    refine Frm.pop ⟨f0.g.trans f'.g, fun a o ho hn => ?_, fun a ha => f0.t a (f'.t a ha)⟩
    obtain ⟨h1, h2, h3⟩ := f0.k a o ho hn
    obtain ⟨g1, g2, g3⟩ := f'.k a o h1 fun j z => by
      have z : (if j = e1.length then a ∈ bs else w4.fp j a) := z
      by_cases hj : j = e1.length
      · rw [if_pos hj] at z
        rcases so a (by simp [z]) with y | ⟨l, y⟩
        · rw [y] at ho; cases ho
        · exact hn l y
      · rw [if_neg hj] at z; exact h3 j z
    exact ⟨g1, g2.trans h2, g3⟩
  have soN : ∀ a ∈ p :: dx :: (a1 ++ as' ++ a2), w0.H a = none ∨ ∃ j, w0.fp j a := fun a ha => by
    rcases inN a ha with y | y
    · exact so a (rest a y).1
    · rcases f'.back (.inr ⟨e1.length, (has' a).mpr y⟩) with z | ⟨j, z⟩
      · exact .inl (f0.t a z)
      · have z : (if j = e1.length then a ∈ bs else w4.fp j a) := z
        by_cases hj : j = e1.length
        · rw [if_pos hj] at z
          exact so a (by simp [z])
        · rw [if_neg hj] at z
          exact f0.back (.inr ⟨j, z⟩)
  obtain ⟨mF, fF⟩ := mp.give (w0 := w0) fw hv (b := .tr (.nd (.ins c fs) (ts.set k t'))) (fun fp hfp => ⟨_, tkN, hidN.nd, hfp⟩) hidN soN
  refine ⟨_, mF, fF, rfl, rfl, fun o z hk => ?_⟩
  obtain ⟨fp, b1, b2⟩ := hk
  have notRest : ∀ a, fp a → a ∉ p :: dx :: (a1 ++ a2) := fun a ha y => by
    obtain ⟨r1, r2⟩ := rest a y
    obtain ⟨o', ho'⟩ := hid.h a r1
    rcases (b2 a ha).1 with x | ⟨j, x⟩
    · have x : w4.H a = none := x
      rw [x] at ho'; cases ho'
    · have x : (if j = e1.length then a ∈ bs else w4.fp j a) := x
      by_cases hj : j = e1.length
      · rw [if_pos hj] at x; exact r2 x
      · rw [if_neg hj] at x; exact hid.n a r1 j x
  refine ⟨fp, b1, fun a ha => ⟨?_, fun j x => ?_⟩⟩
  · rcases (b2 a ha).1 with x | ⟨j, x⟩
    · exact .inl (f0.t a x)
    · have x : (if j = e1.length then a ∈ bs else w4.fp j a) := x
      by_cases hj : j = e1.length
      · rw [if_pos hj] at x
        exact so a (by simp [x])
      · rw [if_neg hj] at x
        exact f0.back (.inr ⟨j, x⟩)
  · have x : (if j = i then a ∈ p :: dx :: (a1 ++ as' ++ a2) else (j ≠ e1.length ∧ w'.fp j a)) := x
    by_cases hj : j = i
    · rw [if_pos hj] at x
      rcases inN a x with y | y
      · exact notRest a ha y
      · exact (b2 a ha).2 e1.length ((has' a).mpr y)
    · rw [if_neg hj] at x
      exact (b2 a ha).2 j x.2
end
end VL
set_option maxRecDepth 100000
set_option maxHeartbeats 2000000
namespace VL
open PySem L2
end VL
set_option maxRecDepth 100000
namespace VL
open PySem L2 PySem.Spec PyProof.Rows
end VL
set_option maxRecDepth 100000
namespace VL
open PySem L2
def KP (q : Nat) (e e1 : Env) : Prop := at? e1 q = at? e q ∧ e1.length = e.length
theorem KP.refl {q : Nat} {e : Env} : KP q e e := ⟨rfl, rfl⟩
theorem KP.trans {q : Nat} {e e1 e2 : Env} (h : KP q e e1) (k : KP q e1 e2) : KP q e e2 := ⟨k.1.trans h.1, k.2.trans h.2⟩
end VL
set_option maxRecDepth 100000
namespace VL
open PySem L2
end VL
set_option maxRecDepth 100000
namespace VL
open PySem L2
/-- the parts, taken back -/
def cloE : List Nat → Env → Option (List Tr × Env)
  | [], e => some ([], e)
  | j :: js, e => ((at? e j).bind trOf).bind fun t => (cloE js (e.set j none)).bind fun p => some (t :: p.1, p.2)
/-- a part in a slot: 0 frozen or a tree, 1 a list of frozen things, as a list of one's own, 2 a tree whatever it is -/
def rowK (fl : Nat) (t : Tr) : Option B := match fl with
  | 0 => rowB false t
  | 1 => rowB true t
  | 3 => match t with
    | .fr d => some (.fr d)
    | _ => none
  | _ => some (.tr t)
theorem bok_rowK {C : Cc} {fl : Nat} {b : B} {G H : Hp} {t : Tr} {v : V} {as : List Addr} (hb : rowK fl t = some b) (h : TOk C G H t v as) (nd : as.Nodup) : BOk C G H b v fun a => a ∈ as := by
  unfold rowK at hb
  split at hb
  · exact bok_rowB hb h nd
  · exact bok_rowB hb h nd
  · cases t with
    | fr d => exact bok_rowB (fl := false) (t := .fr d) (show some (B.fr d) = some b from hb) h nd
    | nd k ts => cases hb
  · cases hb
    exact ⟨as, h, nd, fun _ => Iff.rfl⟩
/-- the parts given to names -/
def opnE : List (Nat × Nat) → List Tr → Env → Option Env
  | [], [], e => some e
  | j :: js, t :: ts, e => if j.1 < e.length then (rowK j.2 t).bind fun b => opnE js ts (e.set j.1 (some b)) else none
  | _, _, _ => none
/-- the parts from k on, hidden -/
structure Tu (C : Cc) (w0 w : WS) (o : HO) (p : Addr) (xs : List V) (ts : List Tr) (k : Nat) (as : List Addr) : Prop where
  at_ : w.H p = some o
  len : xs.length = k + ts.length
  al : TAll C w.G w.H ts (xs.drop k) as
  hid : Hid w (p :: as)
  src : ∀ a ∈ p :: as, w0.H a = none ∨ ∃ j, w0.fp j a
section
variable {C : Cc} {π : List (Nat × V)} {w0 w w1 : WS} {p : Addr} {o : HO} {xs : List V}
theorem Tu.step {ts : List Tr} {k : Nat} {as : List Addr} (r : Tu C w0 w o p xs ts k as) (f : Frm w w1) : Tu C w0 w1 o p xs ts k as := by
  obtain ⟨h1, h2⟩ := r.hid.step f
  exact ⟨(h2 p List.mem_cons_self).1.trans r.at_, r.len, r.al.mono f.g fun a ha => h2 a (List.mem_cons_of_mem _ ha), h1, r.src⟩
theorem Tu.next {e : Env} {σ : St} {t : Tr} {ts : List Tr} {k j : Nat} {as : List Addr} {fl : Nat} {b : B} (r : Tu C w0 w o p xs (t :: ts) k as) (m : Mt C π (e.set j none) σ w) (f : Frm w0 w) (hj : j < e.length) (hp : ∀ q ∈ π, q.1 ≠ j) (hb : rowK fl t = some b) :
    ∃ (hk : k < xs.length) (w' : WS) (a2 : List Addr), Mt C π ((e.set j none).set j (some b)) (σ.set j (some xs[k])) w' ∧ Frm w0 w' ∧ w'.H = w.H ∧ Tu C w0 w' o p xs ts (k + 1) a2 := by
  have hlt : k < xs.length := by rw [r.len, List.length_cons]; omega
  refine ⟨hlt, ?_⟩
  have al := r.al
  rw [List.drop_eq_getElem_cons hlt] at al
  obtain ⟨x, ys, at_, ar, ex, ea, tt, tr⟩ := TAll.at al
  cases ex
  subst ea
  have sub1 : at_.Sublist (p :: (at_ ++ ar)) := (List.sublist_append_left at_ ar).trans (List.sublist_cons_self _ _)
  have sub2 : (p :: ar).Sublist (p :: (at_ ++ ar)) := List.Sublist.cons_cons p (List.sublist_append_right at_ ar)
  have hidt : Hid w at_ := r.hid.sub sub1
  have hidr : Hid w (p :: ar) := r.hid.sub sub2
  have dsj : ∀ a ∈ at_, a ∉ p :: ar := fun a ha z => by
    obtain ⟨d1, d2⟩ := List.nodup_cons.mp r.hid.nd
    obtain ⟨d3, d4, d5⟩ := List.nodup_append.mp d2
    rcases List.mem_cons.mp z with rfl | z
    · exact d1 (List.mem_append_left _ ha)
    · exact d5 a ha a z rfl
  have hl : j < (e.set j none).length := by rw [List.length_set]; exact hj
  have m3 : Mt C π (e.set j none) (σ.set j (some xs[k])) w := m.sfree (at_set_lt hj) hp
  have hjs : (σ.set j (some xs[k]))[j]? = some (some xs[k]) := List.getElem?_set_self (by rw [← m.len]; exact hl)
  obtain ⟨m4, f4⟩ := m3.give (w0 := w0) f hjs (fun fp hfp => by
    have := bok_rowK hb tt hidt.nd
    have e1 : (fun a => a ∈ at_) = fp := by funext a; exact propext (hfp a).symm
    rw [e1] at this
    exact this) hidt (fun a ha => r.src a (sub1.subset ha))
  refine ⟨_, ar, m4, f4, rfl, ⟨r.at_, by rw [r.len, List.length_cons]; omega, tr, ⟨hidr.nd, hidr.g, hidr.h, fun a ha l z => ?_⟩, fun a ha => r.src a (sub2.subset ha)⟩⟩
  have z' : (if l = j then a ∈ at_ else w.fp l a) := z
  by_cases hl : l = j
  · rw [if_pos hl] at z'
    exact dsj a z' ha
  · rw [if_neg hl] at z'
    exact hidr.n a ha l z'
end
end VL
set_option maxRecDepth 100000
namespace VL
open PySem PySem.Spec PyProof.Rows L2 PySem.Builtin PySem.Builtin.Str
end VL
namespace VL
open PySem PySem.Spec PyProof.Rows L2
end VL
namespace VL
open PySem PySem.Spec PyProof.Rows L2
end VL
set_option maxRecDepth 100000
namespace VL
open PySem L2
end VL
set_option maxRecDepth 100000
set_option maxHeartbeats 2000000
namespace VL
open PySem L2
section
variable {C : Cc} {π : List (Nat × V)} {e e1 : Env} {σ : St} {w w0 w1 w4 : WS} {i k : Nat}
/-- the part at js taken out of what slot i held: a slot of its own -/
structure SubP (C : Cc) (w0 w : WS) (js : List Nat) (tr : Tr) (v0 : V) (t : Tr) (v : V) (a1 bs a2 : List Addr) : Prop where
  hid : Hid w (a1 ++ bs ++ a2)
  so : ∀ a ∈ a1 ++ bs ++ a2, w0.H a = none ∨ ∃ j, w0.fp j a
  tk : TOk C w.G w.H t v bs
  wk : Walk w.H v0 js v
  mkN : ∀ {G' H' : Hp} {t' : Tr} {bs' : List Addr}, Same w.G G' → (∀ a ∈ a1 ++ a2, H' a = w.H a ∧ G' a = w.G a) → TOk C G' H' t' v bs' → ∃ tr', tr.put js t' = some tr' ∧ TOk C G' H' tr' v0 (a1 ++ bs' ++ a2)
/-- given back: the whole with the part as it is now -/
theorem SubP.give {js : List Nat} {tr : Tr} {v0 v : V} {t t' : Tr} {a1 bs a2 : List Addr} {w' : WS} (S : SubP C w0 w4 js tr v0 t v a1 bs a2) (f0 : Frm w0 w4) (hv : σ[i]? = some (some v0)) (hπ : ∀ q ∈ π, q.1 < σ.length)
    (m' : Mt C π (e1 ++ [some (.tr t')]) (σ ++ [some v]) w') (f' : Frm (w4.push e1.length fun a => a ∈ bs) w') :
    ∃ tr' w'', tr.put js t' = some tr' ∧ Mt C π (e1.set i (some (.tr tr'))) σ w'' ∧ Frm w0 w'' ∧ w''.H = w'.H ∧ w''.G = w'.G ∧ ∀ (o : B) (z : V), OOk C (σ ++ [some v]) (w4.push e1.length fun a => a ∈ bs) w' (.b o) z → OOk C σ w0 w'' (.b o) z := by
  obtain ⟨hid, so, tkS, wk, mk⟩ := S
  have hl : e1.length = σ.length := by simpa using m'.len
  have nd := hid.nd
  -- what is of the rest is hidden in the call
  have rest : ∀ a ∈ a1 ++ a2, a ∈ a1 ++ bs ++ a2 ∧ a ∉ bs := fun a ha => by
    obtain ⟨d1, d2, d3⟩ := List.nodup_append.mp nd
    obtain ⟨d4, d5, d6⟩ := List.nodup_append.mp d1
    rcases List.mem_append.mp ha with ha | ha
    · exact ⟨by simp [ha], fun z => d6 a ha a z rfl⟩
    · exact ⟨by simp [ha], fun z => d3 a (by simp [z]) a ha rfl⟩
  have hidp : ∀ a ∈ a1 ++ a2, w'.H a = w4.H a ∧ w'.G a = w4.G a ∧ ∀ j, ¬ w'.fp j a := fun a ha => by
    obtain ⟨h1, h2⟩ := rest a ha
    obtain ⟨o, ho⟩ := hid.h a h1
    obtain ⟨g1, g2, g3⟩ := f'.k a o ho fun j z => by
      have z : (if j = e1.length then a ∈ bs else w4.fp j a) := z
      by_cases hj : j = e1.length
      · rw [if_pos hj] at z; exact h2 z
      · rw [if_neg hj] at z; exact hid.n a h1 j z
    exact ⟨g1.trans ho.symm, g2, g3⟩
  obtain ⟨vv, u1, u2⟩ := m'.bok e1.length (.tr t') (by rw [at_push, if_pos rfl])
  have e9 : (σ ++ [some v])[e1.length]? = some (some v) := by rw [hl, List.getElem?_append_right (Nat.le_refl _)]; simp
  rw [e9] at u1
  cases u1
  obtain ⟨as', tk', nd', has'⟩ : ∃ as', TOk C w'.G w'.H t' v as' ∧ as'.Nodup ∧ ∀ a, w'.fp e1.length a ↔ a ∈ as' := u2
  obtain ⟨tr', hput, tkN⟩ := mk (G' := w'.G) (H' := w'.H) f'.g (fun a ha => ⟨(hidp a ha).1, (hidp a ha).2.1⟩) tk'
  have mp := Mt.pop m' hπ
  have inN : ∀ a, a ∈ a1 ++ as' ++ a2 → a ∈ a1 ++ a2 ∨ a ∈ as' := fun a ha => by
    simp only [List.mem_append] at ha ⊢
    rcases ha with (h | h) | h
    · exact .inl (.inl h)
    · exact .inr h
    · exact .inl (.inr h)
  have hidN : Hid (w'.pop e1.length) (a1 ++ as' ++ a2) := by
    refine ⟨?_, fun a ha => ?_, fun a ha => ?_, fun a ha j z => ?_⟩
    · have dis : ∀ a ∈ a1 ++ a2, a ∉ as' := fun a ha z => (hidp a ha).2.2 e1.length ((has' a).mpr z)
      have nd0 : (a1 ++ a2).Nodup := nd.sublist (List.Sublist.append_right (List.sublist_append_left a1 bs) a2)
      obtain ⟨d1, d2, d3⟩ := List.nodup_append.mp nd0
      refine List.nodup_append.mpr ⟨List.nodup_append.mpr ⟨d1, nd', fun a ha b hb z => ?_⟩, d2, fun a ha b hb z => ?_⟩
      · subst z
        exact dis a (by simp [ha]) hb
      · subst z
        rcases List.mem_append.mp ha with ha | ha
        · exact d3 a ha a hb rfl
        · exact dis a (by simp [hb]) ha
    · exact (tkN.own a ha).1
    · exact (tkN.own a ha).2
    · rcases inN a ha with y | y
      · exact (hidp a y).2.2 j z.2
      · have := m'.dis j e1.length a z.2 ((has' a).mpr y)
        exact z.1 this
  have fw : Frm w0 (w'.pop e1.length) := by
    refine Frm.pop ⟨f0.g.trans f'.g, fun a o ho hn => ?_, fun a ha => f0.t a (f'.t a ha)⟩
    obtain ⟨h1, h2, h3⟩ := f0.k a o ho hn
    obtain ⟨g1, g2, g3⟩ := f'.k a o h1 fun j z => by
      have z : (if j = e1.length then a ∈ bs else w4.fp j a) := z
      by_cases hj : j = e1.length
      · rw [if_pos hj] at z
        rcases so a (by simp [z]) with y | ⟨l, y⟩
        · rw [y] at ho; cases ho
        · exact hn l y
      · rw [if_neg hj] at z; exact h3 j z
    exact ⟨g1, g2.trans h2, g3⟩
  have soN : ∀ a ∈ a1 ++ as' ++ a2, w0.H a = none ∨ ∃ j, w0.fp j a := fun a ha => by
    rcases inN a ha with y | y
    · exact so a (rest a y).1
    · rcases f'.back (.inr ⟨e1.length, (has' a).mpr y⟩) with z | ⟨j, z⟩
      · exact .inl (f0.t a z)
      · have z : (if j = e1.length then a ∈ bs else w4.fp j a) := z
        by_cases hj : j = e1.length
        · rw [if_pos hj] at z
          exact so a (by simp [z])
        · rw [if_neg hj] at z
          exact f0.back (.inr ⟨j, z⟩)
  obtain ⟨mF, fF⟩ := mp.give (w0 := w0) fw hv (b := .tr tr') (fun fp hfp => ⟨_, tkN, hidN.nd, hfp⟩) hidN soN
  refine ⟨tr', _, hput, mF, fF, rfl, rfl, fun o z hk => ?_⟩
  obtain ⟨fp, b1, b2⟩ := hk
  have notRest : ∀ a, fp a → a ∉ a1 ++ a2 := fun a ha y => by
    obtain ⟨r1, r2⟩ := rest a y
    obtain ⟨o', ho'⟩ := hid.h a r1
    rcases (b2 a ha).1 with x | ⟨j, x⟩
    · have x : w4.H a = none := x
      rw [x] at ho'; cases ho'
    · have x : (if j = e1.length then a ∈ bs else w4.fp j a) := x
      by_cases hj : j = e1.length
      · rw [if_pos hj] at x; exact r2 x
      · rw [if_neg hj] at x; exact hid.n a r1 j x
  refine ⟨fp, b1, fun a ha => ⟨?_, fun j x => ?_⟩⟩
  · rcases (b2 a ha).1 with x | ⟨j, x⟩
    · exact .inl (f0.t a x)
    · have x : (if j = e1.length then a ∈ bs else w4.fp j a) := x
      by_cases hj : j = e1.length
      · rw [if_pos hj] at x
        exact so a (by simp [x])
      · rw [if_neg hj] at x
        exact f0.back (.inr ⟨j, x⟩)
  · have x : (if j = i then a ∈ a1 ++ as' ++ a2 else (j ≠ e1.length ∧ w'.fp j a)) := x
    by_cases hj : j = i
    · rw [if_pos hj] at x
      rcases inN a x with y | y
      · exact notRest a ha y
      · exact (b2 a ha).2 e1.length ((has' a).mpr y)
    · rw [if_neg hj] at x
      exact (b2 a ha).2 j x.2
end
end VL
set_option maxRecDepth 100000
set_option maxHeartbeats 2000000
namespace VL
open PySem L2
end VL
set_option maxRecDepth 100000
set_option maxHeartbeats 2000000
namespace VL
open PySem L2
end VL
namespace VL
open PySem L2
end VL
set_option maxRecDepth 100000
set_option maxHeartbeats 2000000
namespace VL
open PySem L2
section
variable {C : Cc}
/-- a child taken out, and any other one put there -/
theorem TAll.put : ∀ {ts : List Tr} {xs : List V} {as : List Addr} {G H : Hp} {k : Nat} {t : Tr}, TAll C G H ts xs as → ts[k]? = some t → ∃ x a1 bs a2, xs[k]? = some x ∧ as = a1 ++ bs ++ a2 ∧ TOk C G H t x bs ∧
    ∀ {G' H' : Hp} {t' : Tr} {x' : V} {bs' : List Addr}, Same G G' → (∀ a ∈ a1 ++ a2, H' a = H a ∧ G' a = G a) → TOk C G' H' t' x' bs' → TAll C G' H' (ts.set k t') (xs.set k x') (a1 ++ bs' ++ a2)
  | _, _, _, _, _, k, t, .nil, h => by simp at h
  | _, _, _, _, _, 0, t, .cons (as := as) (bs := bs) h1 h2, h => by
    rw [List.getElem?_cons_zero] at h
    cases h
    refine ⟨_, [], as, bs, rfl, by simp, h1, fun {G' H' t' x' bs'} sG hk h3 => ?_⟩
    rw [List.set_cons_zero, List.set_cons_zero, List.nil_append]
    exact .cons h3 (h2.mono sG fun a ha => hk a (by simpa using ha))
  | _, _, _, _, _, k + 1, t, .cons (as := as) (bs := bs) h1 h2, h => by
    rw [List.getElem?_cons_succ] at h
    obtain ⟨x, a1, b, a2, g1, g2, g3, g4⟩ := TAll.put h2 h
    refine ⟨x, as ++ a1, b, a2, by rw [List.getElem?_cons_succ]; exact g1, by rw [g2]; simp, g3, fun {G' H' t' x' bs'} sG hk h3 => ?_⟩
    rw [List.set_cons_succ, List.set_cons_succ, List.append_assoc, List.append_assoc, ← List.append_assoc a1]
    exact .cons (h1.mono sG fun a ha => hk a (by simp [ha])) (g4 sG (fun a ha => hk a (by
      rcases List.mem_append.mp ha with z | z
      · simp [z]
      · simp [z])) h3)
end
end VL
set_option maxRecDepth 100000
set_option maxHeartbeats 2000000
namespace VL
open PySem L2
end VL
set_option maxRecDepth 100000
namespace VL
open PySem L2
end VL
set_option maxRecDepth 100000
namespace VL
open PySem L2
namespace Kf
def FK (q : Nat) (e e1 : Env) : Prop := ∀ d, at? e q = some (.fr d) → at? e1 q = some (.fr d)
theorem FK.trans {q : Nat} {e e1 e2 : Env} (k : FK q e1 e2) (h : FK q e e1) : FK q e e2 := fun d z => k d (h d z)
def KP (q : Nat) (e e1 : Env) : Prop := FK q e e1 ∧ e1.length = e.length
theorem KP.refl {q : Nat} {e : Env} : KP q e e := ⟨fun _ h => h, rfl⟩
theorem KP.trans {q : Nat} {e e1 e2 : Env} (h : KP q e e1) (k : KP q e1 e2) : KP q e e2 := ⟨k.1.trans h.1, k.2.trans h.2⟩
end Kf
end VL
set_option maxRecDepth 100000
namespace VL
open PySem L2 PySem.Spec PyProof.Rows PySem.Calls
open PySem.W (AllAlike Sortable EachIs dataKind sortVals sortingHeap copyHeap alike alikeAll)
def isIU : PyData → Bool
  | .tuple (d :: es) => (asInts (d :: es)).isSome
  | _ => false
theorem isIU_of {d : PyData} (h : isIU d = true) : ∃ (n : Int) (ns : List Int), d = .tuple ((n :: ns).map .int) := by
  unfold isIU at h
  split at h
  · rename_i e es
    obtain ⟨ns, hn⟩ := Option.isSome_iff_exists.mp h
    have := asInts_some hn
    cases ns with
    | nil => cases this
    | cons n ns => exact ⟨n, ns, by rw [this]⟩
  · cases h
section
variable {X : Cx} {ρ : Nat → Res}
theorem rp_dp_IU {K : PySem.W.Frag} {G H : Hp} (s : Same G H) {x : V} {d : PyData} (hi : isIU d = true) (h : Rp K G x d) : Dp K H x d := by
  obtain ⟨n, ns, rfl⟩ := isIU_of hi
  refine Rp.dp _ ?_ (h.mono s)
  simp [PyData.canLay0, PyData.canLayAll0, lay_ints ns]
end
def KyIs (H : Hp) (b : Addr) (d : PyData) : Prop := ∃ k : List Key, H b = some (.tup (k.map kV)) ∧ kPT k = d
theorem key_ints : ∀ {k : List Key} {ns : List Int}, k.map kP = ns.map .int → k.map kV = ns.map V.int
  | [], [], _ => rfl
  | [], _ :: _, h => by cases h
  | _ :: _, [], h => by cases h
  | .inl i :: k, n :: ns, h => by
    have h' : PyData.int i :: k.map kP = .int n :: ns.map .int := h
    injection h' with h1 h2
    injection h1 with h1
    subst h1
    show V.int i :: k.map kV = V.int i :: ns.map V.int
    rw [key_ints h2]
  | .inr x :: k, n :: ns, h => by
    have h' : PyData.str x :: k.map kP = .int n :: ns.map .int := h
    injection h' with h1 h2
    cases h1
theorem KyIs.ints {H : Hp} {b : Addr} {d : PyData} (h : KyIs H b d) (hi : isIU d = true) : ∃ ns : List Int, d = .tuple (ns.map .int) ∧ H b = some (.tup (ns.map V.int)) := by
  obtain ⟨k, h1, rfl⟩ := h
  obtain ⟨n, ns, e⟩ := isIU_of hi
  have e' : PyData.tuple (k.map kP) = .tuple ((n :: ns).map .int) := e
  injection e' with e2
  refine ⟨n :: ns, e, ?_⟩
  rw [h1, key_ints e2]
theorem rpall_ints {K : PySem.W.Frag} {G : Hp} : ∀ ns : List Int, RpAll K G (ns.map V.int) (ns.map .int)
  | [] => .nil
  | n :: ns => .cons (.int n) (rpall_ints ns)
theorem KyIs.rp {K : PySem.W.Frag} {G H : Hp} {b : Addr} {d : PyData} (tg : TGz G H) (h : KyIs H b d) (hi : isIU d = true) : Rp K G (.ref b) d := by
  obtain ⟨ns, rfl, hb⟩ := h.ints hi
  exact .tup (tg b ns hb) (rpall_ints ns)
theorem KyIs.dp {K : PySem.W.Frag} {H : Hp} {b : Addr} {d : PyData} (h : KyIs H b d) (hi : isIU d = true) : Dp K H (.ref b) d := by
  obtain ⟨ns, e, hb⟩ := h.ints hi
  refine rp_dp_IU (G := H) (Same.refl _) hi ?_
  rw [e]
  exact .tup hb (rpall_ints ns)
theorem RpDT.keys {K : PySem.W.Frag} {G : Hp} : ∀ {ks : List (List Key × V)} {ds : DKv}, RpDT K G ks ds → ks.map (fun p => kPT p.1) = ds.map (·.1)
  | _, _, .nil => rfl
  | _, _, .cons _ t => by rw [List.map_cons, List.map_cons, t.keys]
def iKeysT (i : Nat) : FI := fun e => match at? e i with
  | some (.rs 3 (.dict ds)) => if (ds.map (·.1)).all isIU = true then some (.ok (ds.map (·.1)) e) else none
  | _ => none
def fFGet (i : Nat) (fk : FE) : FE := fun e => match at? e i with
  | some (.rs 3 _) => bnd (fk e) fun o e1 => match at? e1 i with
    | some (.rs 3 (.dict ds)) => (res e1 o).bind fun k => if isKT k = true then (lookDT ds k).map fun d => .ok (.b (.fr d)) e1 else none
    | _ => none
  | _ => none
section
variable {X : Cx} {ρ : Nat → Res} {W : WX} {pn : List Nat} {a b : Expr} {pos p2 ps apos cpos p : Pos} {fa fb fx fv fk : FE}
theorem it_keysT {C : Cc} {G : Hp} {p : Addr} {od : Obj} {ks : List (List Key × V)} {ds : DKv} (h : G p = some (.frz od (.dT ks))) (r : RpDT C.K G ks ds) (hi : (ds.map (·.1)).all isIU = true) : ItOk C G (Itkt p od ks) (ds.map (·.1)) := fun i π e σ w m s => by
  have hH : w.H p = some (.frz od (.dT ks)) := m.sub _ _ (s _ _ h)
  have hl := r.length
  rw [List.length_map]
  refine ⟨fun hi => ⟨hH, by omega⟩, fun hi => ⟨hH, by omega⟩, fun x H' y d hd => ?_⟩
  obtain ⟨rfl, k, v, q, hk, rfl, hq⟩ := y
  refine ⟨w, m, .refl w, rfl, ?_⟩
  have e1 : kPT k = d := by
    have : (ks.map fun p => kPT p.1)[i]? = some (kPT k) := by rw [List.getElem?_map, hk]; rfl
    rw [r.keys, hd] at this
    exact (Option.some.inj this).symm
  exact KyIs.rp m.tg ⟨k, hq, e1⟩ (List.all_eq_true.mp hi d (List.mem_of_getElem? hd))
theorem vi_keysT {tg : Expr} {y : Str} (h3 : ρ 3 = FZT) (i : Nat)
    (hN : X.N[i]? = some y := by rfl) (hv : Vis X.env.scope y := by first | exact Or.inl rfl | exact Or.inr (Or.inl rfl) | exact Or.inr (Or.inr rfl)) (hd : (y == ("__debug__" : Str)) = false := by decide) (hcd : (y == ("__classdict__" : Str)) = false := by decide) :
    VI X ρ W tg (.Name y p2) (iKeysT i) := by
  refine ⟨_, pi_keys (pe_var hN hv hd hcd), fun π e σ w R m h => ?_⟩
  unfold iKeysT at h
  split at h
  case h_2 => exact h.elim
  rename_i ds q
  split at h
  case isFalse => exact h.elim
  rename_i hi
  obtain ⟨p, od, ks, ds', h0, g0, g1, g3, g4⟩ := fzt_of (C := cc X ρ) h3 m q
  cases g3
  exact ⟨.ref p, h0, p, od, rfl, .inr ⟨ks, g1, h _ w m (.refl w) (it_keysT g0 g4 hi)⟩⟩
theorem ve_fget (hρ : ρ 3 = FZT) (i : Nat) {y : Str} (hu : X.A.units + 1 < cLine) (hb : VE X ρ W a fk)
    (hN : X.N[i]? = some y := by rfl) (hv : Vis X.env.scope y := by first | exact Or.inl rfl | exact Or.inr (Or.inl rfl) | exact Or.inr (Or.inr rfl)) (hd : (y == ("__debug__" : Str)) = false := by decide) (hcd : (y == ("__classdict__" : Str)) = false := by decide)
    (hs : NoSl a := by exact fun _ _ => rfl) : VE X ρ W (.Subscript (.Name y p2) a pos) (fFGet i fk) := by
  obtain ⟨t2, pb, s2⟩ := hb
  refine ⟨_, pe_dget hu (pe_var hN hv hd hcd) pb hs, fun π e σ w Q m h => ?_⟩
  unfold fFGet at h
  split at h
  case h_2 => exact h.elim
  rename_i d0 q0
  obtain ⟨p, od0, ks0, ds0, h0, _⟩ := fzt_of (C := cc X ρ) hρ m q0
  refine ⟨.ref p, h0, s2 π e σ w _ m (h.bnd fun o2 e2 v2 w2 m2 f2 k2 h2 => ?_)⟩
  split at h2
  case h_2 => exact h2.elim
  rename_i ds q1
  obtain ⟨p', od, ks, ds', h1, g1, g2, g3, g4⟩ := fzt_of (C := cc X ρ) hρ m2 q1
  rw [h0] at h1
  cases h1
  cases g3
  cases q2 : res e2 o2 with
  | none => rw [q2] at h2; exact h2.elim
  | some d2 =>
    rw [q2, Option.bind_some] at h2
    split at h2
    case isFalse => exact h2.elim
    rename_i hk
    obtain ⟨b, e4, hb⟩ := kT_rq m2.sub (res_sound m2 k2 q2) hk
    rcases g4.look (keyT d2) with ⟨z1, z2⟩ | ⟨v, d, z1, z2, z3⟩
    · rw [kPT_keyT hk] at z2; rw [z2] at h2; exact h2.elim
    · rw [kPT_keyT hk] at z2
      rw [z2] at h2
      subst e4
      exact ⟨p, v, rfl, by rw [← z1]; exact DGet.f g2 hb, h2 _ w2 m2 f2 (.fr z3)⟩
end
end VL
set_option maxRecDepth 100000
namespace VL
open PySem L2 PySem.Spec PyProof.Rows PySem.Calls
theorem RpDT.vals {K : PySem.W.Frag} {G : Hp} : ∀ {ks : List (List Key × V)} {ds : DKv}, RpDT K G ks ds → RpAll K G (ks.map (·.2)) (ds.map (·.2))
  | _, _, .nil => .nil
  | _, _, .cons r t => .cons r t.vals
end VL
set_option maxRecDepth 100000
namespace VL
open PySem L2 PySem.Spec PyProof.Rows PySem.Calls
section
variable {prog : Program} {w : World} {K : Type} [DecidableEq K] {knd : HeapKind prog w K} {A : Around} {E : Value → Shared → Prop} {s : Shared}
inductive HitsH (prog : Program) (w : World) (A : Around) (s : Shared) (ys : List (K × Addr × Value)) : List (K × Addr × Value) → Bool → Prop
  | nil : HitsH prog w A s ys [] true
  | miss {k : K} {b : Addr} {v : Value} {r : List (K × Addr × Value)} : atKey ys k = none → HitsH prog w A s ys ((k, b, v) :: r) false
  | hit {k : K} {b c : Addr} {v y : Value} {r : List (K × Addr × Value)} {e b' : Bool} : atKey ys k = some (c, y) → SeqAt.EqP prog w A s v y e → HitsH prog w A s ys r b' → HitsH prog w A s ys ((k, b, v) :: r) (e && b')
theorem HitsH.inv {ys : List (K × Addr × Value)} {k : K} {c : Addr} {v : Value} {r : List (K × Addr × Value)} {b : Bool} (h : HitsH prog w A s ys ((k, c, v) :: r) b) :
    (atKey ys k = none ∧ b = false) ∨ ∃ d y e b', atKey ys k = some (d, y) ∧ SeqAt.EqP prog w A s v y e ∧ HitsH prog w A s ys r b' ∧ b = (e && b') := by
  cases h with
  | miss hn => exact .inl ⟨hn, rfl⟩
  | hit hy he hr => exact .inr ⟨_, _, _, _, hy, he, hr, rfl⟩
theorem samePairsH {nm : String} {a b : Addr} {xs ys : List (K × Addr × Value)} {r : Bool} {Q : Bool → Shared → Prop} (hu : knd.room A) (ha : (a == sysModules) = false) (hb : (b == sysModules) = false)
    (da : s.heap.DictOfH knd a xs) (db : s.heap.DictOfH knd b ys) (hits : HitsH prog w A s ys xs r) (h : Q (xs.length == ys.length && r) s) :
    wpAny (model prog w) A (Builtin.Dict.samePairs nm a b) Q E s := by
  obtain ⟨oa, es, ep, hoa, _, hda, hea, hia, _⟩ := da
  obtain ⟨ob, es', ep', hob, _, hdb, heb, hib, hnb⟩ := db
  have hla : xs.length = es.size := (size_of_entries hea).symm
  have hlb : ys.length = es'.size := (size_of_entries heb).symm
  rw [hla, hlb] at h
  unfold Builtin.Dict.samePairs Builtin.Dict.showsAll
  rw [if_neg (show ¬ (a == sysModules) = true by rw [ha]; exact Bool.false_ne_true), if_neg (show ¬ (b == sysModules) = true by rw [hb]; exact Bool.false_ne_true)]
  refine wpAny_bind (wpAny_pure (wpAny_bind (wpAny_pure ?_)))
  refine wpAny_bind (wpAny_dictEntries hoa hda ?_)
  dsimp only
  refine wpAny_bind (wpAny_dictEntries hob hdb ?_)
  by_cases hsz : es.size = es'.size
  case neg =>
    rw [if_pos (by simpa using hsz)]
    have hbf : (es.size == es'.size) = false := by simpa using hsz
    rw [hbf, Bool.false_and] at h
    exact wpAny_bind (wpAny_rule (wpAny_pure h))
  case pos =>
    have h' : Q r s := by simpa [hsz] using h
    rw [if_neg (by rw [hsz]; simp)]
    refine wpAny_bind (wpAny_dictEpoch hoa hda ?_)
    refine wpAny_bind ?_
    rw [Std.Legacy.Range.forIn_eq_forIn_range']
    simp only [Std.Legacy.Range.size, Nat.sub_zero, Nat.add_sub_cancel, Nat.div_one]
    refine wpAny_forIn_list _
      (fun rest q s' => s' = s ∧ q = (none, ()) ∧ ∃ i, rest = List.range' i (es.size - i) ∧ i ≤ es.size ∧ HitsH prog w A s ys (xs.drop i) r)
      _ ?_ ?_ _ _ ⟨rfl, rfl, 0, by simp, Nat.zero_le _, hits⟩
    · rintro x rest q s' ⟨rfl, rfl, i, hr, hi, hpre⟩
      have hlt : i < es.size := by
        rcases Nat.lt_or_ge i es.size with h | h
        · exact h
        · rw [Nat.sub_eq_zero_of_le h] at hr; simp at hr
      obtain ⟨rfl, hrest⟩ : x = i ∧ rest = List.range' (i + 1) (es.size - (i + 1)) := by
        have e : es.size - i = (es.size - (i + 1)) + 1 := by omega
        rw [e, List.range'_succ] at hr
        injection hr with h1 h2
        exact ⟨h1, h2⟩
      refine wpAny_bind (wpAny_dictEntries hoa hda ?_)
      rw [Array.getElem?_eq_getElem hlt]
      have hlt' : x < xs.length := by rw [hla]; exact hlt
      obtain ⟨k, c, v, hkv⟩ : ∃ k c v, xs[x] = (k, c, v) := ⟨_, _, _, rfl⟩
      have hdrop : xs.drop x = (k, c, v) :: xs.drop (x + 1) := by rw [← hkv]; exact List.drop_eq_getElem_cons hlt'
      have hex : es[x] = entryOfKey knd (k, c, v) := by
        have := entry_at hea x
        rw [Array.getElem?_eq_getElem hlt, List.getElem?_eq_getElem hlt', hkv] at this
        exact Option.some.inj this
      have hkey : knd.is s'.heap k c := by
        have := hia xs[x] (List.getElem_mem hlt')
        rw [hkv] at this
        exact this
      rw [hdrop] at hpre
      rw [hex]
      show wpAny _ _ (holding [Value.ref c, v] _ >>= _) _ _ _
      refine wpAny_bind (wpAny_holding (wpAny_bind (wpAny_dictFind_heap (k := k) hu hkey hob hdb heb hib hnb (fun hn => ?_) fun j p hj => ?_)))
      · have hn' : atKey ys k = none := atKey_none_of_get hn
        rcases hpre.inv with ⟨_, er⟩ | ⟨_, y, _, _, hy, _⟩
        · rw [er] at h'
          refine wpAny_pure ?_
          show wpAny _ _ (if (!false) = true then _ else _) _ _ _
          rw [if_pos (by decide)]
          exact wpAny_pure (wpAny_pure h')
        · rw [hn'] at hy; exact nomatch hy
      · have hv' : atKey ys k = some p := atKey_of_get hnb hj
        have hjlt : j < es'.size := by rw [← hlb]; exact (List.getElem?_eq_some_iff.mp hj).1
        have hej : es'[j].val = p.2 := by
          have := entry_at heb j
          rw [Array.getElem?_eq_getElem hjlt, hj] at this
          rw [Option.some.inj this]
          rfl
        refine wpAny_bind (wpAny_dictEntries hob hdb ?_)
        rw [Array.getElem?_eq_getElem hjlt]
        rcases hpre.inv with ⟨hn, _⟩ | ⟨d, y, e, b', hy, he, hrr, er⟩
        · rw [hv'] at hn; exact nomatch hn
        · have ey : es'[j].val = y := by
            rw [hej]
            rw [hv'] at hy
            rw [Option.some.inj hy]
          rw [← ey] at he
          refine wpAny_holding (he _ _ ?_)
          cases e with
          | false =>
            rw [er, Bool.false_and] at h'
            show wpAny _ _ (if (!false) = true then _ else _) _ _ _
            rw [if_pos (by decide)]
            exact wpAny_pure (wpAny_pure h')
          | true =>
            rw [Bool.true_and] at er
            rw [← er] at hrr
            show wpAny _ _ (if (!true) = true then _ else _) _ _ _
            rw [if_neg (by decide)]
            refine wpAny_bind (wpAny_dictEpoch hoa hda ?_)
            rw [if_neg (by simp)]
            exact wpAny_pure ⟨rfl, rfl, x + 1, hrest, hlt, hrr⟩
    · rintro q s' ⟨rfl, rfl, i, hr, hi, hpre⟩
      have hin : i = es.size := by
        rcases Nat.lt_or_ge i es.size with h | h
        · have e : es.size - i = (es.size - (i + 1)) + 1 := by omega
          rw [e, List.range'_succ] at hr; exact nomatch hr
        · exact Nat.le_antisymm hi h
      refine wpAny_pure ?_
      rw [hin, ← hla, List.drop_length] at hpre
      cases hpre
      exact h'
theorem neH {a b : Addr} {xs ys : List (K × Addr × Value)} {r : Bool} {Q : Value → Shared → Prop} (hu' : knd.room A.in1) (ha : (a == sysModules) = false) (hb : (b == sysModules) = false)
    (da : s.heap.DictOfH knd a xs) (db : s.heap.DictOfH knd b ys) (hu : A.units < cLine) (hits : HitsH prog w A.in1 s ys xs r) (h : Q (.bool (!(xs.length == ys.length && r))) s) :
    wpAny (model prog w) A (compareOp .NotEq (.ref a) (.ref b)) Q E s := by
  refine wpAny_richCompare_same_room (op := .NotEq) da.typeIs db.typeIs PySem.F.slot_dict_ne (wpAny_call_entry PySem.F.slot_dict_ne da.typeIs PySem.F.entry_dict_ne ?_ (PySem.F.args_dict_ne_2 _ _)) hu
  show wpAny _ _ (Builtin.Dict.dictSlotArgs "__ne__" ⟨[.ref a, .ref b], []⟩ >>= _) _ _ s
  refine wpAny_bind ?_
  unfold Builtin.Dict.dictSlotArgs
  refine wpAny_bind (wpAny_notOrdered_dict da.typeIs ?_)
  show wpAny _ _ (pure (Value.ref a, Value.ref b)) _ _ s
  refine wpAny_pure ?_
  refine wpAny_bind (wpAny_isInstance (T := "dict") db.typeIs PySem.F.sub_dict_dict ?_)
  simp only [Bool.not_true, Bool.false_eq_true, if_false]
  refine wpAny_bind (wpAny_pure (wpAny_bind (wpAny_pure ?_)))
  refine wpAny_bind (samePairsH hu' ha hb da db hits ?_)
  refine wpAny_pure ⟨_, rfl, ?_, ?_⟩
  · exact fun x => nomatch x
  · simpa using h
end
def isInt : V → Bool
  | .int _ => true
  | _ => false
def intEq : V → V → Bool
  | .int a, .int b => decide (a = b)
  | _, _ => false
/-- each of the one's pairs is in the other -/
def hitsT (kb : List (List Key × V)) (ka : List (List Key × V)) : Bool := ka.all fun p => match valV kb p.1 with
  | some y => intEq p.2 y
  | none => false
def rNeDT : R2 := fun x y H Q => ∃ a b ka kb, x = .ref a ∧ y = .ref b ∧ Rd H a (.dT ka) ∧ Rd H b (.dT kb) ∧ (ka.all fun p => isInt p.2) = true ∧ (kb.all fun p => isInt p.2) = true ∧ Q (.bl (!(ka.length == kb.length && hitsT kb ka))) H
section
variable {X : Cx}
theorem valV_mem {kb : List (List Key × V)} {k : List Key} {v : V} (h : valV kb k = some v) : ∃ p ∈ kb, p.2 = v := by
  unfold valV at h
  obtain ⟨p, h1, h2⟩ := Option.map_eq_some_iff.mp h
  exact ⟨p, List.mem_of_find?_eq_some h1, h2⟩
theorem hits_of {A : Around} {s : Shared} {H : Hp} {kb : List (List Key × V)} {ys : List (List Key × Addr × Value)} (rb : KT H kb ys) (hb : (kb.all fun p => isInt p.2) = true) : ∀ {ka : List (List Key × V)} {xs : List (List Key × Addr × Value)}, KT H ka xs → (ka.all fun p => isInt p.2) = true → HitsH X.prog X.w A s ys xs (hitsT kb ka)
  | _, _, .nil, _ => .nil
  | _, _, .cons (a := p) (b := q) (l₁ := ka) (l₂ := xs) h t, hi => by
    rw [List.all_cons, Bool.and_eq_true] at hi
    have ih := hits_of (A := A) (s := s) rb hb t hi.2
    obtain ⟨k, c, v⟩ := q
    obtain ⟨k', x⟩ := p
    obtain ⟨h1, h2, h3⟩ := h
    have h1' : k' = k := h1
    subst h1'
    have hv := rb.val k'
    show HitsH X.prog X.w A s ys ((k', c, v) :: xs) ((match valV kb k' with
      | some y => intEq x y
      | none => false) && hitsT kb ka)
    cases e : valV kb k' with
    | none =>
      rw [e] at hv
      rw [Bool.false_and]
      refine .miss ?_
      cases e2 : atKey ys k' with
      | none => rfl
      | some z => rw [e2] at hv; exact hv.elim
    | some y =>
      rw [e] at hv
      cases e2 : atKey ys k' with
      | none => rw [e2] at hv; exact hv.elim
      | some z =>
        rw [e2] at hv
        have hy : RelV y z.2 := hv
        obtain ⟨p, hp, e3⟩ := valV_mem e
        have hyi : isInt y = true := by rw [← e3]; exact List.all_eq_true.mp hb p hp
        cases x with
        | int i =>
          cases y with
          | int j =>
            obtain ⟨t1, rfl⟩ := h3
            obtain ⟨t2, e4⟩ := hy
            refine .hit (c := z.1) (y := z.2) e2 (fun E Q hq => ?_) ih
            rw [e4]
            exact wpAny_eqBool_int (by
              have : (i == j) = decide (i = j) := by by_cases h : i = j <;> simp [h]
              rw [this]
              exact hq)
          | _ => cases hyi
        | _ => cases hi.1
theorem op_neDT (hu : X.A.units + 1 < cLine) : OpR X (compareOp .NotEq) rNeDT := by
  intro pins s σ H x y v u Q I rx ry h
  obtain ⟨a, b, ka, kb, rfl, rfl, hda, hdb, ia, ib, q⟩ := h
  obtain rfl : v = Value.ref a := rx
  obtain rfl : u = Value.ref b := ry
  obtain ⟨za, hsa, xs, ra, da⟩ := dt_rd I.hok hda
  obtain ⟨zb, hsb, ys, rb, db⟩ := dt_rd I.hok hdb
  refine neH (tupleKind_room_in1 hu) hsa hsb da db (by omega) (hits_of rb ib ra ia) ?_
  rw [← Paired.length ra, ← Paired.length rb]
  exact ⟨.bl _, H, I, rfl, q⟩
end
end VL
set_option maxRecDepth 100000
namespace VL
open PySem L2 PySem.Spec PyProof.Rows PySem.Calls
section
variable {C : Cc} {π π' : List (Nat × V)} {e : Env} {σ σ' : L2.St} {w : WS}
/-- the heap grown -/
theorem Mt.ext {H' : Hp} (m : Mt C π e σ w) (keep : ∀ a o, w.H a = some o → H' a = some o) : Mt C π e σ { G := addT w.G H', H := H', fp := w.fp } ∧ Frm w { G := addT w.G H', H := H', fp := w.fp } := by
  refine ⟨⟨m.len, addT_sub m.sub keep, addT_tg, fun i b q => ?_, m.non, m.dis, m.pin⟩, ⟨addT_same m.tg m.sub keep, fun a u h n => ⟨keep a u h, addT_old m.tg keep a u h, n⟩, fun a h => ?_⟩⟩
  · obtain ⟨v, h1, h2⟩ := m.bok i b q
    refine ⟨v, h1, h2.mono (addT_same m.tg m.sub keep) fun a ha => ?_⟩
    obtain ⟨_, u, hu⟩ := h2.own a ha
    exact ⟨(keep a u hu).trans hu.symm, addT_old m.tg keep a u hu⟩
  · cases q : w.H a with
    | none => rfl
    | some o =>
      have h' : H' a = none := h
      rw [keep a o q] at h'
      cases h'
theorem Mt.pins (m : Mt C π e σ w) (h : ∀ q ∈ π', σ[q.1]? = some (some q.2)) : Mt C π' e σ w := ⟨m.len, m.sub, m.tg, m.bok, m.non, m.dis, h⟩
end
/-- the dict at i is locked, all else that is owned is lent -/
def sLockT (i : Nat) (ks : List Nat) (f : FS) : FS := fun e => match at? e i with
  | some (.rs 2 d) => (match f ((lendE e).set i (some (.rs 3 d))) with
    | some (.nx e2) => if e2.length = e.length then some (.nx (mask ks e e.length)) else none
    | some (.rt (.fr b) e2) => if isFlat b = true ∧ e2.length = e.length then some (.rt (.fr b) (mask ks e e.length)) else none
    | some (.ex c e2) => some (.ex c (e2.map fun _ => none))
    | _ => none)
  | _ => none
section
variable {C : Cc} {π : List (Nat × V)} {e e' : Env} {σ σ' : L2.St} {w w' : WS}
theorem back_of {H' : Hp} {ks : List Nat} (m : Mt C π e σ w) (m' : Mt C (pins σ e ks ++ π) e' σ' w') (hl : σ'.length = σ.length) (keep : ∀ a o, w.H a = some o → H' a = some o) :
    Mt C π (mask ks e e.length) σ' { G := addT w.G H', H := H', fp := fun k a => k ∈ ks ∧ w.fp k a } ∧ Frm w { G := addT w.G H', H := H', fp := fun k a => k ∈ ks ∧ w.fp k a } := by
  refine ⟨⟨?_, addT_sub m.sub keep, addT_tg, fun i b q => ?_, fun i q a z => ?_, fun i j a x y => m.dis i j a x.2 y.2, fun p hp => m'.pin p (List.mem_append_right _ hp)⟩, ⟨addT_same m.tg m.sub keep, fun a o h n => ⟨keep a o h, addT_old m.tg keep a o h, fun i z => n i z.2⟩, fun a h => ?_⟩⟩
  · unfold mask
    rw [List.length_map, List.length_range, hl]
    exact m.len
  · obtain ⟨h1, h2, h3⟩ := at_mask q
    obtain ⟨v, g1, g2⟩ := m.bok i b h3
    refine ⟨v, m'.pin (i, v) (List.mem_append_left _ (pins_mem h1 h3 g1)), ?_⟩
    have e1 : (fun a => i ∈ ks ∧ w.fp i a) = w.fp i := by funext a; exact propext ⟨fun z => z.2, fun z => ⟨h1, z⟩⟩
    show BOk C (addT w.G H') H' b v (fun a => i ∈ ks ∧ w.fp i a)
    rw [e1]
    refine g2.mono (addT_same m.tg m.sub keep) fun a ha => ?_
    obtain ⟨_, o, ho⟩ := g2.own a ha
    exact ⟨(keep a o ho).trans ho.symm, addT_old m.tg keep a o ho⟩
  · cases q2 : at? e i with
    | none => exact m.non i q2 a z.2
    | some b =>
      have hi : i < e.length := by
        unfold at? at q2
        cases q3 : e[i]? with
        | none => rw [q3] at q2; cases q2
        | some c => exact (List.getElem?_eq_some_iff.mp q3).1
      have : at? (mask ks e e.length) i = some b := by
        unfold at? mask
        rw [List.getElem?_map, List.getElem?_range hi]
        show (if i ∈ ks then at? e i else none) = some b
        rw [if_pos z.1, q2]
      rw [this] at q
      cases q
  · cases q : w.H a with
    | none => rfl
    | some o =>
      have h' : H' a = none := h
      rw [keep a o q] at h'
      cases h'
end
section
variable {C : Cc} {W : WX} {pn : List Nat} {t : TS} {f : FS}
theorem ss_lockT (h2 : C.rho 2 = DTR) (h3 : C.rho 3 = FZT) (i : Nat) (ks : List Nat) (sb : SS C W (ks ++ pn) t f) : SS C W pn (tLock t) (sLockT i ks f) := fun π e σ w D hpi m h => by
  unfold sLockT at h
  split at h
  case h_2 => exact h.elim
  rename_i d q
  obtain ⟨p, kvs, ds, g0, g1, g2, rfl, g4, g5⟩ := dtr_of h2 m q
  refine ⟨p, .dT kvs, g2, trivial, fun od => ?_⟩
  have sG : Same w.G (upd w.G p (.frz od (.dT kvs))) := fun a u q => by rw [upd_ne (ne_of_none q g1)]; exact q
  have m1 : Mt C π (e.set i (some (.rs 3 (.dict ds)))) σ (w.frzX i p (.frz od (.dT kvs))) := m.frzX q g0 g1 g5 (by
    show (C.rho 3).rep C.K _ _ _ _ _
    rw [h3]
    exact ⟨p, od, kvs, ds, rfl, upd_same, rfl, g4.mono sG, fun a z => z⟩)
  generalize hw1 : w.frzX i p (.frz od (.dT kvs)) = w1 at m1
  have eH1 : w1.H = upd w.H p (.frz od (.dT kvs)) := by rw [← hw1]; rfl
  have eG1 : w1.G = upd w.G p (.frz od (.dT kvs)) := by rw [← hw1]; rfl
  have efp : ∀ j a, w1.fp j a → w.fp j a := fun j a z => by rw [← hw1] at z; exact z.1
  generalize hos : allO (e.set i (some (.rs 3 (.dict ds)))) = os
  have hi : i < e.length := at_lt q
  have ml : Mt C π ((lendE e).set i (some (.rs 3 (.dict ds)))) σ (w1.lent os) := by
    refine ⟨by rw [List.length_set]; unfold lendE; rw [List.length_map]; exact m.len, lent_sub m1, m1.tg.more (lent_G m1), fun j y qj => ?_, fun j q a z => z, fun j k a z _ => z.elim, m1.pin⟩
    by_cases hij : i = j
    · subst hij
      have q0 : ∃ b, at? ((lendE e).set i (some (.rs 3 (.dict ds)))) i = some b := ⟨y, qj⟩
      have e1 : at? ((lendE e).set i (some (.rs 3 (.dict ds)))) i = some (.rs 3 (.dict ds)) := by
        unfold at?
        rw [List.getElem?_set_self (by unfold lendE; rw [List.length_map]; exact hi)]
      rw [e1] at qj
      cases qj
      refine ⟨.ref p, g0, ?_⟩
      show (C.rho 3).rep C.K _ _ _ _ _
      rw [h3]
      refine ⟨p, od, kvs, ds, rfl, lent_G m1 _ _ (by rw [eG1]; exact upd_same), rfl, ?_, fun a z => z⟩
      refine (g4.mono sG).mono fun a u z => lent_G m1 a u (by rw [eG1]; exact z)
    · rw [at_set_ne hij] at qj
      obtain ⟨x, a1, a2, a3⟩ := at_lend qj
      have qx : at? (e.set i (some (.rs 3 (.dict ds)))) j = some x := by rw [at_set_ne hij]; exact a1
      obtain ⟨v, b1, b2⟩ := m1.bok j x qx
      refine ⟨v, b1, lent_bok m1 ?_ b2 a2⟩
      rw [← hos]
      exact List.mem_map.mpr ⟨j, List.mem_range.mpr (by rw [List.length_set]; exact a3), rfl⟩
  have hpn : ∀ r ∈ pins σ e ks ++ π, r.1 ∈ ks ++ pn := fun r h => by
    rcases List.mem_append.mp h with h | h
    · exact List.mem_append_left _ (pins_sub r h).1
    · exact List.mem_append_right _ (hpi r h)
  have mp : Mt C (pins σ e ks ++ π) ((lendE e).set i (some (.rs 3 (.dict ds)))) σ (w1.lent os) := ml.pins fun r h => by
    rcases List.mem_append.mp h with h | h
    · exact (pins_sub r h).2
    · exact m.pin r h
  have old : ∀ {w' : WS}, Frm (w1.lent os) w' → w'.H p = some (.frz od (.dT kvs)) ∧ ∀ a o, w.H a = some o → a ≠ p → w'.H a = some o := fun {w'} f' => by
    refine ⟨(f'.k p _ (by show w1.H p = _; rw [eH1]; exact upd_same) (fun _ z => z)).1, fun a o ho hne => (f'.k a o (by show w1.H a = _; rw [eH1, upd_ne hne]; exact ho) (fun _ z => z)).1⟩
  have keep : ∀ {w' : WS}, Frm (w1.lent os) w' → ∀ a o, w.H a = some o → upd w'.H p (.dT kvs) a = some o := fun {w'} f' a o ho => by
    by_cases z : a = p
    · subst z
      rw [upd_same]
      rw [g2] at ho
      exact ho
    · rw [upd_ne z]
      exact (old f').2 a o ho z
  show t _ σ (upd w.H p (.frz od (.dT kvs)))
  rw [← eH1]
  refine sb _ _ σ (w1.lent os) _ hpn mp ?_
  cases hf : f ((lendE e).set i (some (.rs 3 (.dict ds)))) with
  | none => rw [hf] at h; exact h.elim
  | some r =>
    rw [hf] at h
    cases r with
    | ex c e2 =>
      intro σ' w' A hA m' f'
      have k1 : ∀ a o, w.H a = some o → (∀ j, ¬ w.fp j a) → a ≠ p := fun a o _ n z => n i ((g5 a).mpr z)
      have mn : Mt C π (e2.map fun _ => none) σ' { G := w'.G, H := w'.H, fp := fun _ _ => False } := by
        refine ⟨by rw [List.length_map]; exact m'.len, m'.sub, m'.tg, fun j b q => ?_, fun j q a z => z, fun j k a x y => x.elim, fun p hp => m'.pin p (List.mem_append_right _ hp)⟩
        exfalso
        unfold at? at q
        rw [List.getElem?_map] at q
        cases q2 : e2[j]? with
        | none => rw [q2] at q; cases q
        | some c => rw [q2] at q; cases q
      have fn : Frm w { G := w'.G, H := w'.H, fp := fun _ _ => False } := by
        refine ⟨fun a u z => f'.g a u (lent_G m1 a u (by rw [eG1]; exact sG a u z)), fun a o ho n => ?_, fun a hn => ?_⟩
        · have hne := k1 a o ho n
          refine ⟨(old f').2 a o ho hne, ?_, fun _ z => z⟩
          have e1 := (f'.k a o (by show w1.H a = _; rw [eH1, upd_ne hne]; exact ho) (fun _ z => z)).2.1
          rw [e1]
          show (w1.lent os).G a = w.G a
          unfold WS.lent
          dsimp only
          rw [if_neg (fun ⟨j, _, z⟩ => n j (efp j a z)), eG1, upd_ne hne]
        · cases q : w.H a with
          | none => rfl
          | some o =>
            have hn' : w'.H a = none := hn
            by_cases z : a = p
            · rw [z, (old f').1] at hn'; cases hn'
            · rw [(old f').2 a o q z] at hn'; cases hn'
      exact h σ' { G := w'.G, H := w'.H, fp := fun _ _ => False } A hA mn fn
    | nx e2 =>
      have h' : PostS C W π w (if e2.length = e.length then some (.nx (mask ks e e.length)) else none) D := h
      clear h
      split at h'
      case isFalse => exact h'.elim
      rename_i hle
      intro σ' w' m' f'
      obtain ⟨a2, a3⟩ := back_of m m' (m'.len.symm.trans (hle.trans m.len)) (keep f')
      exact ⟨(old f').1, h' σ' _ a2 a3⟩
    | rt b e2 =>
      cases b with
      | fr b =>
        have h' : PostS C W π w (if isFlat b = true ∧ e2.length = e.length then some (.rt (.fr b) (mask ks e e.length)) else none) D := h
        clear h
        split at h'
        case isFalse => exact h'.elim
        rename_i hfl
        intro v σ' w' m' f' k'
        obtain ⟨a2, a3⟩ := back_of m m' (m'.len.symm.trans (hfl.2.trans m.len)) (keep f')
        obtain ⟨fp, b1, b2⟩ := k'
        exact ⟨(old f').1, h' v σ' _ a2 a3 ⟨fun _ => False, ⟨flat_rp b1.1 hfl.1, fun _ z => z⟩, fun a z => z.elim⟩⟩
      | _ => exact h.elim
    | bk e' => exact h.elim
    | ct e' => exact h.elim
end
theorem vs_lockT {X : Cx} {ρ : Nat → Res} {W : WX} {pn : List Nat} (h2 : ρ 2 = DTR) (h3 : ρ 3 = FZT) (i : Nat) (ks : List Nat) {st : Stmt} {f : FS} (hb : VS X ρ W (ks ++ pn) st f) : VS X ρ W pn st (sLockT i ks f) := by
  obtain ⟨t, p, s⟩ := hb
  exact ⟨_, ps_lock p, ss_lockT (C := cc X ρ) h2 h3 i ks s⟩
end VL
set_option maxRecDepth 100000
namespace VL
open PySem L2 PySem.Spec PyProof.Rows PySem.Calls
def rClrDT : V → List V → Hp → VK → Prop := fun x xs H Q => ∃ (a : Addr) (kvs : List (List L2.Key × V)), x = .ref a ∧ xs = [] ∧ H a = some (.dT kvs) ∧ Q .non (upd H a (.dT []))
section
variable {X : Cx}
theorem mt_clrDT : MtR X "dict.clear" rClrDT := by
  intro pins s σ H x xs v us Q I rx rxs h
  obtain ⟨a, kvs, rfl, rfl, ha, q⟩ := h
  cases rx
  cases rxs
  obtain ⟨z, hd, xs', rel, o, es, ep, ho, hx, hdt, he, his, hn⟩ := dt_of I.hok ha
  have l1 : es.size = xs'.length := size_of_entries he
  have l2 : kvs.length = xs'.length := Paired.length rel
  have hm : s.heap.DictRaw a es ep := ⟨o, ho, hx, hdt⟩
  refine call_meetsIn F.slot_dict_clear hm.typeIs F.entry_dict_clear (F.args_dict_clear_1 _) (meets_dict_clear_raw a) ⟨es, ep, hm, by omega, fun h' hr' hs' => ?_⟩
  obtain ⟨o', ho', hc', hdat'⟩ := hr'
  have I2 : Inv X pins σ (upd H a (.dT [])) { s with heap := h' } :=
    d_write I (by rw [ha]; exact True.intro) hs' ⟨o', ho'⟩ ⟨Nat.zero_le _, hd, [], .nil, o', #[], ep + 1, ho', hc', hdat', rfl, List.nodup_nil⟩
  exact ⟨.non, _, I2, rfl, q⟩
end
def fClrD (i : Nat) : FE := fun e => match at? e i with
  | some (.rs 2 _) => some (.ok (.b (.fr .none)) (e.set i (some (.rs 2 (.dict [])))))
  | _ => none
def asDT : Option B → Option DKv
  | some (.rs k (.dict ds)) => if k = 2 ∨ k = 3 then some ds else none
  | _ => none
def intV : DKv → Bool := fun ds => ds.all fun p => match p.2 with
  | .int _ => true
  | _ => false
def eqI : Option PyData → PyData → Bool
  | some (.int j), .int i => decide (i = j)
  | _, _ => false
def hitsD (db da : DKv) : Bool := da.all fun p => eqI (lookDT db p.1) p.2
def fNeD (i j : Nat) : FE := fun e => (asDT (at? e i)).bind fun a => (asDT (at? e j)).bind fun b => if intV a = true ∧ intV b = true then some (.ok (.b (.fr (.bool (!(a.length == b.length && hitsD b a))))) e) else none
theorem intV_isInt {K : PySem.W.Frag} {G : Hp} : ∀ {ks : List (List L2.Key × V)} {ds : DKv}, RpDT K G ks ds → intV ds = true → (ks.all fun p => isInt p.2) = true
  | _, _, .nil, _ => rfl
  | _, _, .cons (d := d) r t, h => by
    unfold intV at h
    rw [List.all_cons, Bool.and_eq_true] at h
    rw [List.all_cons, Bool.and_eq_true]
    refine ⟨?_, intV_isInt t h.2⟩
    cases d with
    | int i => cases r; rfl
    | _ => cases h.1
theorem hits_eq {K : PySem.W.Frag} {G : Hp} {kb : List (List L2.Key × V)} {db : DKv} (rb : RpDT K G kb db) (ib : intV db = true) : ∀ {ka : List (List L2.Key × V)} {da : DKv}, RpDT K G ka da → intV da = true → hitsT kb ka = hitsD db da
  | _, _, .nil, _ => rfl
  | _, _, .cons (k := k) (v := v) (d := d) (ks := ks) (ds := ds) r t, h => by
    unfold intV at h
    rw [List.all_cons, Bool.and_eq_true] at h
    have ih := hits_eq rb ib t h.2
    show ((match valV kb k with
      | some y => intEq v y
      | none => false) && hitsT kb ks) = (eqI (lookDT db (kPT k)) d && hitsD db ds)
    rw [ih]
    congr 1
    rcases rb.look k with ⟨z1, z2⟩ | ⟨y, dy, z1, z2, z3⟩
    · rw [z1, z2]
      cases d <;> rfl
    · rw [z1, z2]
      cases d with
      | int i =>
        cases r
        cases z3 <;> rfl
      | _ => cases h.1
theorem dt_slot {C : Cc} (h2 : C.rho 2 = DTR) (h3 : C.rho 3 = FZT) {π : List (Nat × V)} {e : Env} {σ : L2.St} {w : WS} {i : Nat} {ds : DKv} (m : Mt C π e σ w) (h : asDT (at? e i) = some ds) :
    ∃ p ks, σ[i]? = some (some (.ref p)) ∧ Rd w.H p (.dT ks) ∧ RpDT C.K w.G ks ds := by
  cases q : at? e i with
  | none => rw [q] at h; cases h
  | some b =>
    rw [q] at h
    unfold asDT at h
    split at h
    · rename_i k ds' e1
      cases e1
      split at h
      · rename_i hk
        cases h
        rcases hk with rfl | rfl
        · obtain ⟨p, ks, ds', g0, g1, g2, g3, g4, g5⟩ := dtr_of h2 m q
          cases g3
          exact ⟨p, ks, g0, .inl g2, g4⟩
        · obtain ⟨p, od, ks, ds', h0, g0, g1, g3, g4⟩ := fzt_of h3 m q
          cases g3
          exact ⟨p, ks, h0, .inr ⟨od, g1⟩, g4⟩
      · cases h
    · cases h
section
variable {X : Cx} {ρ : Nat → Res} {W : WX} {pos p p1 p2 apos cpos : Pos}
theorem ve_clrD (hρ : ρ 2 = DTR) (i : Nat) {y : Str}
    (hN : X.N[i]? = some y := by rfl) (hv : Vis X.env.scope y := by first | exact Or.inl rfl | exact Or.inr (Or.inl rfl) | exact Or.inr (Or.inr rfl)) (hd : (y == ("__debug__" : Str)) = false := by decide) (hcd : (y == ("__classdict__" : Str)) = false := by decide)
    (hbase : attributeBase (.Name y p1) "clear" X.env (eval (.Name y p1) X.env) = eval (.Name y p1) X.env := by rfl) (hline : (apos.endLine == cpos.line) = true := by rfl) :
    VE X ρ W (.Call (.Attribute (.Name y p1) "clear" apos) [] [] cpos) (fClrD i) := by
  refine ⟨_, pe_bm0 PySem.F.plainAttrs_dict PySem.F.slot_dict_clear PySem.F.type_dict_clear mt_clrDT (pe_var hN hv hd hcd) hbase hline, fun π e σ w Q m h => ?_⟩
  unfold fClrD at h
  split at h
  case h_2 => exact h.elim
  rename_i d q
  obtain ⟨p, ks, ds, g0, g1, g2, rfl, g4, g5⟩ := dtr_of (C := cc X ρ) hρ m q
  refine ⟨.ref p, g0, .inr (.inr (.inl ⟨rfl, .inr ⟨ks, g2⟩⟩)), p, ks, rfl, rfl, g2, ?_⟩
  refine h .non { w with H := upd w.H p (.dT []) } ⟨by rw [List.length_set]; exact m.len, fun a o q => ?_, m.tg.put (fun _ h => by cases h), fun j b q2 => ?_, fun j q2 a z => ?_, m.dis, m.pin⟩ ⟨Same.refl _, fun a o q2 n => ⟨?_, rfl, n⟩, fun a q2 => ?_⟩ (.fr .non)
  · show upd w.H p _ a = some o
    rw [upd_ne (ne_of_none q g1)]
    exact m.sub a o q
  · by_cases hj : i = j
    · subst hj
      rw [at_set_same q] at q2
      cases q2
      refine ⟨.ref p, g0, ?_⟩
      show (ρ 2).rep X.K w.G (upd w.H p _) (.ref p) _ (w.fp i)
      rw [hρ]
      exact ⟨p, _, _, rfl, g1, upd_same, rfl, .nil, g5⟩
    · rw [at_set_ne hj] at q2
      obtain ⟨u, k1, k2⟩ := m.bok j b q2
      refine ⟨u, k1, k2.mono (Same.refl _) fun a ha => ⟨upd_ne fun z => ?_, rfl⟩⟩
      subst z
      exact hj (m.dis i j a ((g5 a).mpr rfl) ha)
  · by_cases hj : i = j
    · subst hj
      rw [at_set_same q] at q2
      cases q2
    · rw [at_set_ne hj] at q2
      exact m.non j q2 a z
  · show upd w.H p _ a = some o
    rw [upd_ne fun z => n i (by rw [z]; exact (g5 p).mpr rfl)]
    exact q2
  · have q3 : upd w.H p (.dT []) a = none := q2
    by_cases z : a = p
    · rw [z, upd_same] at q3
      cases q3
    · rwa [upd_ne z] at q3
theorem vt_neD (h2 : ρ 2 = DTR) (h3 : ρ 3 = FZT) (hu : X.A.units + 1 < cLine) (i j : Nat) {x y : Str}
    (hN : X.N[i]? = some x := by rfl) (hv : Vis X.env.scope x := by first | exact Or.inl rfl | exact Or.inr (Or.inl rfl) | exact Or.inr (Or.inr rfl)) (hd : (x == ("__debug__" : Str)) = false := by decide) (hcd : (x == ("__classdict__" : Str)) = false := by decide)
    (hN2 : X.N[j]? = some y := by rfl) (hv2 : Vis X.env.scope y := by first | exact Or.inl rfl | exact Or.inr (Or.inl rfl) | exact Or.inr (Or.inr rfl)) (hd2 : (y == ("__debug__" : Str)) = false := by decide) (hcd2 : (y == ("__classdict__" : Str)) = false := by decide)
    (hm : behindInMarks .NotEq (.Name y p2) = false := by first | exact nomark _ | rfl) : VT X ρ W (.Compare (.Name x p1) [.NotEq] [.Name y p2] pos) (fTest (fNeD i j)) := by
  refine ⟨_, pt_cmpR (op_neDT hu) (pe_var hN hv hd hcd) (pe_var hN2 hv2 hd2 hcd2) hm, st_test (fun π e σ w Q m h => ?_)⟩
  unfold fNeD at h
  cases qa : asDT (at? e i) with
  | none => rw [qa] at h; exact h.elim
  | some a =>
    rw [qa, Option.bind_some] at h
    cases qb : asDT (at? e j) with
    | none => rw [qb] at h; exact h.elim
    | some b =>
      rw [qb, Option.bind_some] at h
      split at h
      case isFalse => exact h.elim
      rename_i hi
      obtain ⟨pa, ka, s1, ra, da⟩ := dt_slot (C := cc X ρ) h2 h3 m qa
      obtain ⟨pb, kb, s2, rb, db⟩ := dt_slot (C := cc X ρ) h2 h3 m qb
      refine ⟨.ref pa, s1, .ref pb, s2, pa, pb, ka, kb, rfl, rfl, ra, rb, intV_isInt da hi.1, intV_isInt db hi.2, ?_⟩
      rw [hits_eq db hi.2 da hi.1, da.length, db.length]
      exact h _ w m (.refl w) (.fr (.bl _))
end
def fIsDT (i : Nat) : FE := fun e => match at? e i with
  | some (.rs 2 (.dict _)) => some (.ok (.b (.fr (.bool true))) e)
  | _ => none
section
variable {X : Cx} {ρ : Nat → Res} {W : WX} {pos p p1 p2 : Pos}
theorem ve_isDT (h2 : ρ 2 = DTR) (i : Nat) {y : Str} (hm : X.mg "isinstance" = none) (hmx : X.mg "dict" = none) (hvb : bootBuiltins "dict" = some (.type "dict"))
    (hN : X.N[i]? = some y := by rfl) (hv : Vis X.env.scope y := by first | exact Or.inl rfl | exact Or.inr (Or.inl rfl) | exact Or.inr (Or.inr rfl)) (hd : (y == ("__debug__" : Str)) = false := by decide) (hcd : (y == ("__classdict__" : Str)) = false := by decide)
    (hg : Gl X "isinstance" := by rfl) (hgx : Gl X "dict" := by rfl)
    (he : starEach (.Name y p1 :: [.Name "dict" p2]) X.env = (false, eval (.Name y p1) X.env) :: starEach [.Name "dict" p2] X.env := by rfl) (he2 : starEach (.Name "dict" p2 :: []) X.env = (false, eval (.Name "dict" p2) X.env) :: starEach [] X.env := by rfl) (hpl : (backTo pos (starEach [.Name "dict" p2] X.env)).any (·.1) = false := by rfl) :
    VE X ρ W (.Call (.Name "isinstance" p) [.Name y p1, .Name "dict" p2] [] pos) (fIsDT i) := by
  refine ⟨_, pe_callB call_isi hg hm PyProof.Rows.boot_isinstance (pa_cons (pe_var hN hv hd hcd) (pa_cons (pe_bltn hgx hmx hvb (v := .ty "dict") rfl (by decide) (by decide)) pa_nil he2) he) (by decide) (by decide) he hpl, fun π e σ w Q m h => ?_⟩
  unfold fIsDT at h
  split at h
  case h_2 => exact h.elim
  rename_i ds q
  obtain ⟨p, ks, ds', g0, g1, g2, g3, g4, g5⟩ := dtr_of (C := cc X ρ) h2 m q
  cases g3
  exact ⟨.ref p, g0, .ref p, .ty "dict", .type "dict", .type "dict", true, rfl, .ty _, .base (.dT g2), kit_ty (kit_is .dict (.dict [])), h _ w m (.refl w) (.fr (.bl _))⟩
end
def rDictT (K : PySem.W.Frag) : List V → Hp → VK → Prop := fun xs H Q => ∃ (a : Addr) (ps : List Addr) (kvs : List (List L2.Key × V)), xs = [.ref a] ∧ SqL K H a (ps.map V.ref) ∧ Paired (fun p (kv : List L2.Key × V) => ∃ b, SqT K H p [.ref b, kv.2] ∧ H b = some (.tup (kv.1.map kV))) ps kvs ∧
  ∀ p, H p = none → Q (.ref p) (upd H p (.dT (kvs.foldl (fun acc kv => putK acc kv.1 kv.2) [])))
section
variable {X : Cx}
theorem pairsT_of {pins : List (Addr × Obj)} {σ : L2.St} {H : Hp} {s : Shared} (I : Inv X pins σ H s) : ∀ {ps : List Addr} {kvs : List (List L2.Key × V)}, Paired (fun p (kv : List L2.Key × V) => ∃ b, SqT X.K H p [.ref b, kv.2] ∧ H b = some (.tup (kv.1.map kV))) ps kvs →
    ∃ xs : List (List L2.Key × Addr × Value), KT H kvs xs ∧ xs.length = ps.length ∧ ∀ (j : Nat) (q : List L2.Key × Addr × Value), xs[j]? = some q → ∃ b : Addr, ps[j]? = some b ∧ IsTup s.heap b #[.ref q.2.1, q.2.2]
  | _, _, .nil => ⟨[], .nil, rfl, fun j q e => by simp at e⟩
  | _, _, .cons (a := p) (b := kv) ⟨b, h, hb⟩ t => by
    obtain ⟨xs, r, hl, hp⟩ := pairsT_of I t
    obtain ⟨its, rv, ht, _⟩ := I.tuple h
    obtain ⟨u, y, ei, ru, ry⟩ := vals2 rv
    subst ei
    cases (show u = Value.ref b from ru)
    refine ⟨(kv.1, b, y) :: xs, .cons ⟨rfl, hb, ry⟩ r, by rw [List.length_cons, List.length_cons, hl], fun j q e => ?_⟩
    cases j with
    | zero =>
      have e' : (kv.1, b, y) = q := Option.some.inj e
      subst e'
      exact ⟨p, rfl, ht⟩
    | succ j =>
      obtain ⟨b, e1, e2⟩ := hp j q (by simpa using e)
      exact ⟨b, by simpa using e1, e2⟩
theorem KT.all {H : Hp} : ∀ {more : List (List L2.Key × V)} {rs : List (List L2.Key × Addr × Value)} {kvs : List (List L2.Key × V)} {xs : List (List L2.Key × Addr × Value)}, KT H more rs → KT H kvs xs → KT H (more.foldl (fun acc kv => putK acc kv.1 kv.2) kvs) (storedAllH xs rs)
  | _, _, _, _, .nil, r => r
  | _, _, kvs, xs, .cons (a := p) (b := q) (l₁ := ms) (l₂ := rs) h t, r => by
    have this := KT.put r p.1 (y := p.2) (u := q.2.2) h.2.1 h.2.2
    have e : KT H (putK kvs p.1 p.2) (storedH xs q.1 q.2.1 q.2.2) := by
      have e1 : storedH xs p.1 q.2.1 q.2.2 = storedH xs q.1 q.2.1 q.2.2 := by rw [h.1]
      rw [← e1]
      exact this
    show KT H (ms.foldl (fun acc kv => putK acc kv.1 kv.2) (putK kvs p.1 p.2)) (storedAllH (storedH xs q.1 q.2.1 q.2.2) rs)
    exact KT.all t e
theorem putK_le (kvs : List (List L2.Key × V)) : ∀ more : List (List L2.Key × V), (more.foldl (fun acc kv => putK acc kv.1 kv.2) kvs).length ≤ kvs.length + more.length := by
  intro more
  induction more generalizing kvs with
  | nil => exact Nat.le_refl _
  | cons p r ih =>
    have h1 := ih (putK kvs p.1 p.2)
    have h2 := length_putK kvs p.1 p.2
    rw [List.foldl_cons, List.length_cons]
    omega
theorem call_dictT (hc : X.calm = true) (hu : X.A.units + 66 < cLine) : CallR X (.type "dict") (rDictT X.K) := by
  intro pins s σ H xs us Q I r q
  obtain ⟨a, ps, kvs, rfl, hq, hp, q⟩ := q
  obtain rfl := Vals.ref1 r
  obtain ⟨its, rv, pl, hz⟩ := I.list hq
  have ei := refs_at rv
  subst ei
  rw [List.length_map] at hz
  obtain ⟨xs, rel, hl, hpr⟩ := pairsT_of I hp
  obtain ⟨o, n, ho, hc1, hd, hdat⟩ := pl
  have hlk : kvs.length = xs.length := Paired.length rel
  have PA := PySem.PairArg.list (prog := X.prog) (w := X.w) a (ps.map Value.ref).toArray (fun j => ps.getD j 0) (xs.map fun x => (Value.ref x.2.1, x.2.2))
  have all : ∀ {l : List (List L2.Key × V)} {m : List (List L2.Key × Addr × Value)}, KT H l m → ∀ x ∈ m, (tupleKind (mixKind X.prog X.w)).is s.heap x.1 x.2.1 := by
    intro l m q
    induction q with
    | nil => intro x hx; exact nomatch hx
    | @cons p q ps qs hq t ih =>
      intro x hx
      rcases List.mem_cons.mp hx with e | hx
      · subst e
        exact key_of I.hok (by rw [← hq.1]; exact hq.2.1)
      · exact ih x hx
  have his := all rel
  refine PySem.call_dict_pairsH (knd := tupleKind (mixKind X.prog X.w)) (ps := xs) PA (I.ok.hd hc) (show X.A.in1.in1.units < cLine from ?_) ⟨⟨o, n, ho, hc1, hd, hdat⟩, ?_, fun j k v hj => ?_⟩ ⟨by simp, fun i key v hr => ?_⟩ (fun h' hk x hx => ?_) (by simp; omega) fun h' tk hd' hk => ?_
  · have : X.A.in1.in1.units = X.A.units + 1 + 1 := rfl
    omega
  · simp [hl]
  · rw [List.getElem?_map] at hj
    cases qx : xs[j]? with
    | none => rw [qx] at hj; cases hj
    | some x =>
      rw [qx] at hj
      have e1 : (Value.ref x.2.1, x.2.2) = (k, v) := Option.some.inj hj
      cases e1
      obtain ⟨b, hb, ht⟩ := hpr j x qx
      have e2 : ps.getD j 0 = b := by rw [List.getD_eq_getElem?_getD, hb]; rfl
      refine ⟨by simp [hb], .inl ?_⟩
      show s.heap.IsTuple (ps.getD j 0) _
      rw [e2]
      exact ht
  · have hr' : (xs.map fun x => (Value.ref x.2.1, x.2.2))[i]? = some (key, v) := hr
    rw [List.getElem?_map] at hr'
    cases qx : xs[i]? with
    | none => rw [qx] at hr'; cases hr'
    | some x =>
      rw [qx] at hr'
      have e1 : (Value.ref x.2.1, x.2.2) = (key, v) := Option.some.inj hr'
      cases e1
      exact ⟨x.1, x.2.1, rfl, rfl⟩
  · have st : (tupleKind (mixKind X.prog X.w)).Stays := tupleKind_stays
    exact st.all h' (fun b o _ e => hk b o (Nat.ne_of_lt (Heap.lt_size e)) (by simp) e) _ _ (his x hx)
  · have hm : (s.heap.objs.size == sysModules) = false := beq_eq_false_iff_ne.mpr (Nat.ne_of_gt I.big)
    have hlen := putK_le [] kvs
    rw [List.length_nil, Nat.zero_add] at hlen
    obtain ⟨q0, es, ep, hq0, h2, h3, h4, _, h5⟩ := hd'
    have I1 : Inv X pins σ (upd H s.heap.objs.size (.dT (kvs.foldl (fun acc kv => putK acc kv.1 kv.2) []))) { s with heap := h', toks := tk } := I.laid (t' := tk) (fun b o e => hk b o (by simp) e) (Nat.le_refl _)
      ⟨by omega, hm, _, (KT.all rel .nil).keeps fun c ys ec => (by rw [upd_ne (fun z => by rw [z, I.hok.fresh (Nat.le_refl _)] at ec; cases ec)]; exact ec), q0, es, ep, hq0, h2, h3, h4, h5⟩
    exact ⟨.ref s.heap.objs.size, _, I1, rfl, q _ (I.hok.fresh (Nat.le_refl _))⟩
end
def pairsT : List PyData → Option DKv
  | [] => some []
  | .tuple [k, v] :: r => if isKT k = true then (pairsT r).map fun kvs => (k, v) :: kvs else none
  | _ => none
def gDictT : List PyData → Option B
  | [.list ds] => (pairsT ds).map fun kvs => .rs 2 (.dict (kvs.foldl (fun acc p => putDT acc p.1 p.2) []))
  | _ => none
theorem pairsT_rp {K : PySem.W.Frag} {G H : Hp} (sm : Same G H) : ∀ {ds : List PyData} {xs : List V} {kvs : DKv}, RpAll K G xs ds → pairsT ds = some kvs →
    ∃ (ps : List Addr) (ks : List (List L2.Key × V)), xs = ps.map V.ref ∧ Paired (fun p (kv : List L2.Key × V) => ∃ b, SqT K H p [.ref b, kv.2] ∧ H b = some (.tup (kv.1.map kV))) ps ks ∧ RpDT K G ks kvs
  | [], _, _, .nil, h => by
    cases h
    exact ⟨[], [], rfl, .nil, .nil⟩
  | d :: ds, _, kvs, .cons (v := x) (vs := xs) r t, h => by
    unfold pairsT at h
    split at h
    · rename_i e; cases e
    · rename_i k v r' e
      cases e
      split at h
      case isFalse => cases h
      rename_i hk
      obtain ⟨kvs', h1, rfl⟩ := Option.map_eq_some_iff.mp h
      obtain ⟨ps, ks, e1, e2, e3⟩ := pairsT_rp sm t h1
      cases r with
      | @tup p ys _ hp ry =>
        cases ry with
        | @cons y1 _ _ _ r1 ry =>
          cases ry with
          | @cons y2 _ _ _ r2 ry =>
            cases ry
            obtain ⟨b, rfl, hb⟩ : ∃ b, y1 = .ref b ∧ G b = some (.tup ((keyT k).map kV)) := by
              cases k with
              | tuple es =>
                cases r1 with
                | @tup b zs _ hb rz =>
                  refine ⟨b, rfl, ?_⟩
                  rw [hb, kvs_rp rz hk]
                  rfl
              | _ => cases hk
            refine ⟨p :: ps, (keyT k, y2) :: ks, by rw [e1]; rfl, .cons ⟨b, .inl (.inl (sm _ _ hp)), sm _ _ hb⟩ e2, ?_⟩
            have : RpDT K G ((keyT k, y2) :: ks) ((kPT (keyT k), v) :: kvs') := .cons r2 e3
            rwa [kPT_keyT hk] at this
    · cases h
theorem RpDT.all {K : PySem.W.Frag} {G : Hp} : ∀ {more : List (List L2.Key × V)} {ms : DKv} {ks : List (List L2.Key × V)} {ds : DKv}, RpDT K G more ms → RpDT K G ks ds → RpDT K G (more.foldl (fun acc kv => putK acc kv.1 kv.2) ks) (ms.foldl (fun acc p => putDT acc p.1 p.2) ds)
  | _, _, _, _, .nil, r => r
  | _, _, ks, ds, .cons (k := k) (v := v) (d := d) (ks := more) (ds := ms) h t, r => by
    show RpDT K G (more.foldl (fun acc kv => putK acc kv.1 kv.2) (putK ks k v)) (ms.foldl (fun acc p => putDT acc p.1 p.2) (putDT ds (kPT k) d))
    exact RpDT.all t (r.put k h)
section
variable {X : Cx} {ρ : Nat → Res}
theorem v_dictT (hρ : ρ 2 = DTR) (hc : X.calm = true) (hu : X.A.units + 66 < cLine) : CallV X ρ (.type "dict") gDictT := by
  refine ⟨_, call_dictT hc hu, fun π e σ w xs ds z Q m hx hz k => ?_⟩
  unfold gDictT at hz
  split at hz
  case h_2 => cases hz
  rename_i ds
  obtain ⟨kvs, hk, rfl⟩ := Option.map_eq_some_iff.mp hz
  cases hx with
  | cons r t =>
    cases t
    obtain ⟨p, ys, rfl, hp, rp⟩ := r
    obtain ⟨ps, ks, rfl, e2, e3⟩ := pairsT_rp m.sub rp hk
    refine ⟨p, ps, ks, rfl, .of hp, e2, fun q hq => ?_⟩
    have m2 := m.new (o := .dT (ks.foldl (fun acc kv => putK acc kv.1 kv.2) [])) hq
    have f2 := Frm.new (o := .dT (ks.foldl (fun acc kv => putK acc kv.1 kv.2) [])) hq
    refine k (.ref q) (w.new q _) m2 f2 ⟨fun a => a = q, ?_, fun a ha => ?_⟩
    · show (ρ 2).rep X.K w.G (upd w.H q _) (.ref q) (.dict _) _
      rw [hρ]
      exact ⟨q, _, _, rfl, m.sub.free hq, upd_same, rfl, RpDT.all e3 .nil, fun _ => Iff.rfl⟩
    · subst ha
      exact ⟨.inl hq, m.notOwned hq⟩
end
end VL
set_option maxRecDepth 100000
namespace TM
open PySem L2 VL PySem.W PySem.SeqAt Datum
end TM
set_option maxRecDepth 100000
namespace TM
open PySem L2 VL PySem.W Datum
end TM
set_option maxRecDepth 100000
namespace TM
open PySem L2 VL PySem.W PySem.SeqAt Datum
end TM
set_option maxRecDepth 100000
namespace TM
open PySem L2 VL PySem.W PySem.SeqAt Datum
end TM
set_option maxRecDepth 100000
namespace TM
open PySem L2 VL PySem.W PySem.SeqAt Datum
variable {Γ Γ' Γ0 : Ctx} {α β τ : Type} {m : R α} {po : α → PO}
theorem keqL_ints : ∀ as bs : List Int, keqL (as.map toD) (bs.map toD) = decide (as = bs)
  | [], [] => rfl
  | [], _ :: _ => rfl
  | _ :: _, [] => rfl
  | a :: as, b :: bs => by
    show (decide (a = b) && keqL (as.map toD) (bs.map toD)) = _
    rw [keqL_ints as bs, ← Bool.decide_and]
    exact decide_eq_decide.mpr (by simp)
instance : KeyTT (Tup Int) := ⟨fun a => by
  show (a.items.map toD).all isK = true
  rw [List.all_map]
  exact List.all_eq_true.mpr fun _ _ => rfl, fun a b => by
  show keqL (a.items.map toD) (b.items.map toD) = _
  rw [keqL_ints]
  refine decide_eq_decide.mpr ⟨fun h => ?_, fun h => by rw [h]⟩
  cases a
  cases b
  cases h
  rfl⟩
end TM
set_option maxRecDepth 100000
namespace TM
open PySem L2 VL PySem.W PySem.SeqAt Datum
end TM
set_option maxRecDepth 100000
namespace TM
open PySem VL PySem.W.Datum
end TM
set_option maxRecDepth 100000
namespace TM
open PySem VL PySem.W.Datum
end TM
set_option maxRecDepth 100000
set_option maxHeartbeats 1000000
namespace TM
open PySem L2 VL PySem.W Datum PyProof.Rows
/-- a Desk, by its attributes -/
structure Ds where
  way : Str
  things : Int
  far : Int
  lister : Ls
abbrev dsF : List Str := ["way", "things", "far", "lister"]
def Ds.tr (s : Ds) : Tr := .nd (.ins "Desk" dsF) [.fr (toD s.way), .fr (toD s.things), .fr (toD s.far), s.lister.tr]
end TM
set_option maxRecDepth 100000
namespace TM
open PySem L2 VL PySem.W Datum PyProof.Rows
end TM
set_option maxRecDepth 100000
namespace TM
open PySem VL PySem.W.Datum
end TM
namespace TM
open PySem VL PySem.W.Datum
end TM
set_option maxRecDepth 100000
namespace TM
open PySem L2 VL PySem.W PySem.SeqAt
open PySem.W.Datum (toD)
variable {Γ Γ' Γ2 : Ctx} {α β : Type} {m : R α} {po : α → PO} {K : O → KC} {f : FE} {rest g : FS} {i : Nat} {tu : Bool}
inductive On : Nat → Tr → Sl → Prop
  | d {x : PyData} : On 0 (.fr x) (.d x)
  | t {k : Nd} {ts : List Tr} : On 0 (.nd k ts) (.t (.nd k ts))
  | o {ds : List PyData} : On 1 (.nd .lst (ds.map .fr)) (.o (.list ds))
  | k {t : Tr} : On 2 t (.t t)
  | f {x : PyData} : On 3 (.fr x) (.d x)
inductive OnA : List (Nat × Nat) → List Tr → Ctx → Ctx → Prop
  | nil {Γ : Ctx} : OnA [] [] Γ Γ
  | cons {Γ Γ' : Ctx} {j : Nat × Nat} {js : List (Nat × Nat)} {t : Tr} {ts : List Tr} {s : Sl} : On j.2 t s → decide (j.1 < Γ.length) = true → OnA js ts (Γ.set j.1 (some s)) Γ' → OnA (j :: js) (t :: ts) Γ Γ'
theorem On.row : ∀ {fl : Nat} {t : Tr} {s : Sl}, On fl t s → ∃ b, rowK fl t = some b ∧ s.ok (some b)
  | _, _, _, .d => ⟨_, rfl, rfl⟩
  | _, _, _, .t => ⟨_, rfl, rfl⟩
  | _, _, _, .k => ⟨_, rfl, rfl⟩
  | _, _, _, .f => ⟨_, rfl, rfl⟩
  | _, _, _, .o (ds := ds) => ⟨.ow ds, by show (frsT (ds.map .fr)).map B.ow = _; rw [frsT_map]; rfl, rfl⟩
theorem OnA.run : ∀ {js : List (Nat × Nat)} {ts : List Tr} {Γ Γ' : Ctx} {e : VL.Env}, OnA js ts Γ Γ' → Cov Γ e → ∃ e', opnE js ts e = some e' ∧ Cov Γ' e'
  | _, _, _, _, e, .nil, he => ⟨e, rfl, he⟩
  | _, _, _, _, e, .cons h hl hr, he => by
    obtain ⟨b, h1, h2⟩ := h.row
    obtain ⟨e', h3, h4⟩ := hr.run (he.set h2)
    refine ⟨e', ?_, h4⟩
    unfold opnE
    rw [if_pos (by rw [he.len]; exact of_decide_eq_true hl), h1]
    exact h3
inductive Pt : Sl → Tr → Prop
  | d {x : PyData} (h : solid x = true) : Pt (.d x) (.fr x)
  | o {ds : List PyData} : Pt (.o (.list ds)) (.nd .lst (ds.map .fr))
  | t {t : Tr} : Pt (.t t) t
inductive PtA : List Nat → Ctx → List Tr → Ctx → Prop
  | nil {Γ : Ctx} : PtA [] Γ [] Γ
  | cons {Γ Γ' : Ctx} {j : Nat} {js : List Nat} {t : Tr} {ts : List Tr} {s : Sl} : Γ[j]? = some (some s) → Pt s t → PtA js (Γ.set j none) ts Γ' → PtA (j :: js) Γ (t :: ts) Γ'
theorem Pt.back {s : Sl} {t : Tr} {b : Option B} (h : Pt s t) (hb : s.ok b) : b.bind trOf = some t := by
  cases h with
  | d h =>
    cases b with
    | none => cases hb
    | some b =>
      rw [show b = .fr _ from solid_fr hb h]
      rfl
  | o => rw [show b = some (.ow _) from hb]; rfl
  | t => rw [show b = some (.tr _) from hb]; rfl
theorem PtA.run : ∀ {js : List Nat} {Γ Γ' : Ctx} {ts : List Tr} {e : VL.Env}, PtA js Γ ts Γ' → Cov Γ e → ∃ e', cloE js e = some (ts, e') ∧ Cov Γ' e'
  | _, _, _, _, e, .nil, he => ⟨e, rfl, he⟩
  | _, _, _, _, e, .cons h hp hr, he => by
    have h1 := hp.back (he.hold _ _ h)
    obtain ⟨e', h3, h4⟩ := hr.run (he.drop _ none)
    refine ⟨e', ?_, h4⟩
    unfold cloE
    rw [h1, Option.bind_some, h3]
    rfl
/-- what stands at a desk, as a law keeps it -/
structure Ss where
  way : Str
  things : Int
  far : Int
  held : List (List Int)
  deeds : List (Str × List Int)
def Ss.tr (s : Ss) : Tr := .nd .lst [.fr (toD s.way), .fr (toD s.things), .fr (toD s.far), .nd .lst ((s.held.map toD).map .fr), .nd .lst ((s.deeds.map toD).map .fr)]
end TM
set_option maxRecDepth 100000
namespace TM
open PySem L2 VL PySem.W PySem.SeqAt
open PySem.W.Datum (toD)
end TM
namespace TM
open PySem L2 VL PySem.W PySem.SeqAt
open PySem.W.Datum (toD)
end TM
set_option maxRecDepth 100000
namespace TM
open PySem L2 VL PySem.W PySem.SeqAt
open PySem.W.Datum (toD)
variable {Γ Γ' Γ2 Γ0 : Ctx} {α β γ : Type} {m : R α} {po : α → PO} {K : O → KC} {f fx : FE} {rest g fb : FS} {i j n q : Nat} {k : Int} {l : List Nat}
structure Sk where
  way : Str
  things : Int
  far : Int
  lister : Ls
def Sk.tr (s : Sk) : Tr := .nd .lst [.fr (toD s.way), .fr (toD s.things), .fr (toD s.far), Ls.tr s.lister]
end TM
set_option maxRecDepth 100000
namespace TM
open PySem L2 VL PySem.W PySem.SeqAt Datum
variable {Γ Γ' : Ctx} {α β : Type} {m : R α} {po : α → PO} {K : O → KC} {KI : List PyData → KC} {o o1 o2 : O} {fa fk fv fb : FE} {f : FS} {x y : PyData} {i : Nat}
variable {υ : Type} [DecidableEq υ] [Datum υ]
theorem layA_ints : ∀ ns : List Int, PyData.canLayAll0 (ns.map toD) = true
  | [] => by simp [PyData.canLayAll0]
  | n :: ns => by
    show PyData.canLayAll0 (.int n :: ns.map toD) = true
    simp [PyData.canLayAll0, PyData.canLay0, layA_ints ns]
instance : Lay (Tup Int) := ⟨fun t => by
  show (PyData.tuple (t.items.map toD)).canLay0 = true
  rw [PyData.canLay0, layA_ints], by decide⟩
instance : Lay (List (Tup Int)) := ⟨lay_lst, by decide⟩
def cFGet (i : Nat) (o : O) (K : O → KC) : KC := fun e => match at? e i with
  | some (.rs 3 (.dict ds)) => (res e o).bind fun k => if isKT k = true then (lookDT ds k).bind fun d => K (.b (.fr d)) e else none
  | _ => none
theorem j_fget (h : Γ[i]? = some (some (.rs 3 x))) (kk : J Γ (cX fb fun o => cFGet i o K) m po) : J Γ (cX (fFGet i fb) K) m po := kk.to fun e he => ⟨e, he, by
  have h1 : at? e i = some (.rs 3 x) := he.hold i _ h
  show bndS (fFGet i fb e) K = bndS (fb e) _
  unfold fFGet
  rw [h1]
  show bndS (bnd (fb e) _) K = _
  rw [bndS_bnd]
  refine congrArg _ (funext fun a => funext fun e1 => ?_)
  unfold cFGet
  split
  · rename_i ds q
    try rw [q]
    show bndS ((res e1 a).bind _) K = (res e1 a).bind _
    rw [bndS_ob]
    refine congrArg _ (funext fun k => ?_)
    split
    · cases lookDT ds k <;> rfl
    · rfl
  · rename_i hn
    first
      | rfl
      | (split
         · rename_i ds q
           exact absurd q (hn ds)
         · rfl)⟩
section
variable {κ : Type} [DecidableEq κ] [Datum κ] [KeyTT κ]
theorem j_fgop {l : List (κ × υ)} {k : κ} {mk : υ → R α} (h : Γ[i]? = some (some (.rs 3 (dD l)))) (hr : Rd Γ o (toD k)) (kk : ∀ v : υ, J Γ (K (.b (.fr (toD v)))) (mk v) po) : J Γ (cFGet i o K) (ob (lookT l k) mk) po := j_ob fun v hv => (kk v).to fun e he => ⟨e, he, by
  have h1 : at? e i = some (.rs 3 (dD l)) := he.hold i _ h
  unfold cFGet
  rw [h1]
  show (res e o).bind _ = _
  rw [hr e he, Option.bind_some, if_pos (KeyTT.isK k), look_eT, hv]
  rfl⟩
end
end TM
set_option maxRecDepth 100000
namespace TM
open PySem L2 VL PySem.W PySem.SeqAt Datum
end TM
set_option maxRecDepth 100000
namespace TM
open PySem L2 VL PySem.W PySem.SeqAt Datum
variable {Γ Γ' Γl Γk : Ctx} {α β σ : Type} {m : R α} {po : α → PO} {K : O → KC} {KI : List PyData → KC} {i j : Nat} {x y : PyData} {F rest : FS} {ks : List Nat}
theorem j_lockF {m1 : R (Fl σ β)} {Γs : σ → Ctx} {Γr : β → Ctx} {xr : β → PyData} {g : β → R α} {k : R α} (hi : Γ[i]? = some (some (.rs 2 x))) (hl : LdC Γ Γl) (hk : keepS ks Γ = Γk) (h : J (Γl.set i (some (.rs 3 x))) F m1 (poF Γs fun b => .rt (.d (xr b)) (Γr b))) (h1 : ∀ s, (Γs s).length = Γ.length) (h2 : ∀ b, (Γr b).length = Γ.length) (hs : ∀ b, isFlat (xr b) = true)
    (hg : ∀ b, J Γk (fun e => some (.rt (.fr (xr b)) e)) (g b) po) (kk : J Γk rest k po) : J Γ (sSeq (sLockT i ks F) rest) (m1.bind (Fl.outL g k)) po := fun e he => by
  have hq : at? e i = some (.rs 2 x) := he.hold i _ hi
  have hh := h _ ((hl.cov he).set (i := i) (s := .rs 3 x) (b := some (.rs 3 x)) rfl)
  have hc : Cov Γk (mask ks e e.length) := hk ▸ keep_cov he
  have seq : sSeq (sLockT i ks F) rest e = (match sLockT i ks F e with
    | some (.nx e1) => rest e1
    | r => r) := rfl
  have un : sLockT i ks F e = (match F ((lendE e).set i (some (.rs 3 x))) with
    | some (.nx e2) => if e2.length = e.length then some (.nx (mask ks e e.length)) else none
    | some (.rt (.fr b) e2) => if isFlat b = true ∧ e2.length = e.length then some (.rt (.fr b) (mask ks e e.length)) else none
    | some (.ex c e2) => some (.ex c (e2.map fun _ => none))
    | _ => none) := by
    unfold sLockT
    rw [hq]
    rfl
  cases m1 with
  | no => trivial
  | ex c =>
    obtain ⟨e', q⟩ := hh
    exact ⟨_, by rw [seq, un, q]⟩
  | ok r =>
    cases r with
    | bk s => trivial
    | nx s =>
      obtain ⟨w, q, e', rfl, h3⟩ := hh
      have e1 : sLockT i ks F e = some (.nx (mask ks e e.length)) := by
        rw [un, q]
        exact if_pos (h3.len.trans ((h1 s).trans he.len.symm))
      rw [bind_ok, outL_nx, seq, e1]
      exact kk _ hc
    | rt b =>
      obtain ⟨w, q, b', e', rfl, h4, h3⟩ := hh
      have h5 : b' = .fr (xr b) := flat_dat h4 (hs b)
      subst h5
      have e1 : sLockT i ks F e = some (.rt (.fr (xr b)) (mask ks e e.length)) := by
        rw [un, q]
        exact if_pos ⟨hs b, h3.len.trans ((h2 b).trans he.len.symm)⟩
      have h6 := hg b _ hc
      rw [bind_ok, outL_rt, seq, e1]
      exact h6
theorem j_nxU {l : List Nat} {α' : Type} {po : α' → PO} {Γ0 : Ctx} (h : restr l Γ = Γ0) : J Γ sNil (.ok (.nx ()) : R (Fl Unit α')) (poF (fun _ => Γ0) po) := fun e he => ⟨_, rfl, _, rfl, he.of h⟩
section
variable {κ υ : Type} [DecidableEq κ] [Datum κ] [KeyTT κ] [DecidableEq υ] [Datum υ]
theorem keysP_all (l : List ((Int × Int) × υ)) : ((l.map eD).map (·.1)).all isIU = true := by
  rw [List.map_map, List.all_map, List.all_eq_true]
  exact fun _ _ => rfl
theorem j_iKeysP {l : List ((Int × Int) × υ)} (h : Γ[i]? = some (some (.rs 3 (dD l)))) (kk : J Γ (KI ((l.map (·.1)).map toD)) m po) : J Γ (cX (iKeysT i) KI) m po := kk.to fun e he => ⟨e, he, by
  have h1 : at? e i = some (.rs 3 (dD l)) := he.hold i _ h
  show bndS (iKeysT i e) KI = _
  unfold iKeysT
  rw [h1]
  show bndS (if ((l.map eD).map (·.1)).all isIU = true then some (Out.ok ((l.map eD).map (·.1)) e) else none) KI = _
  rw [if_pos (keysP_all l), List.map_map, List.map_map]
  rfl⟩
theorem j_isDT {l : List (κ × υ)} (h : Γ[i]? = some (some (.rs 2 (dD l)))) (kk : J Γ (K (.b (.fr (toD true)))) m po) : J Γ (cX (fIsDT i) K) m po := kk.to fun e he => ⟨e, he, by
  have h1 : at? e i = some (.rs 2 (dD l)) := he.hold i _ h
  show bndS (fIsDT i e) K = _
  unfold fIsDT
  rw [h1]
  rfl⟩
theorem j_clrD {l : List (κ × υ)} (h : Γ[i]? = some (some (.rs 2 (dD l)))) (kk : J (Γ.set i (some (.rs 2 (dD ([] : List (κ × υ)))))) (K (.b (.fr .none))) m po) : J Γ (cX (fClrD i) K) m po := kk.to fun e he => ⟨e.set i (some (.rs 2 (dD ([] : List (κ × υ))))), he.set rfl, by
  have h1 : at? e i = some (.rs 2 (dD l)) := he.hold i _ h
  show bndS (fClrD i e) K = _
  unfold fClrD
  rw [h1]
  rfl⟩
def hitsM (b a : List (κ × Int)) : Bool := a.all fun p => match lookT b p.1 with
  | some j => decide (p.2 = j)
  | none => false
def neDM (a b : List (κ × Int)) : Bool := !(a.length == b.length && hitsM b a)
theorem intV_D (a : List (κ × Int)) : intV (a.map eD) = true := by
  unfold intV
  rw [List.all_map, List.all_eq_true]
  exact fun _ _ => rfl
theorem hitsD_D (b a : List (κ × Int)) : hitsD (b.map eD) (a.map eD) = hitsM b a := by
  unfold hitsD hitsM
  rw [List.all_map]
  congr 1
  funext p
  show eqI (lookDT (b.map eD) (toD p.1)) (toD p.2) = _
  rw [look_eT]
  cases lookT b p.1 <;> rfl
theorem j_neD {a b : List (κ × Int)} {k1 k2 : Nat} (h : Γ[i]? = some (some (.rs k1 (dD a)))) (h' : Γ[j]? = some (some (.rs k2 (dD b)))) (hk : k1 = 2 ∨ k1 = 3) (hk' : k2 = 2 ∨ k2 = 3) (kk : J Γ (K (.b (.fr (toD (neDM a b))))) m po) : J Γ (cX (fNeD i j) K) m po := kk.to fun e he => ⟨e, he, by
  have h1 : at? e i = some (.rs k1 (dD a)) := he.hold i _ h
  have h2 : at? e j = some (.rs k2 (dD b)) := he.hold j _ h'
  show bndS (fNeD i j e) K = _
  unfold fNeD
  rw [h1, h2]
  have e1 : asDT (some (.rs k1 (dD a))) = some (a.map eD) := if_pos hk
  have e2 : asDT (some (.rs k2 (dD b))) = some (b.map eD) := if_pos hk'
  rw [e1, e2, Option.bind_some, Option.bind_some, if_pos ⟨intV_D a, intV_D b⟩, hitsD_D, List.length_map, List.length_map]
  rfl⟩
def mergeTT (xs : List (κ × υ)) : List (κ × υ) := xs.foldl (fun acc p => putT acc p.1 p.2) []
theorem pairsT_D : ∀ xs : List (κ × υ), pairsT (xs.map toD) = some (xs.map eD)
  | [] => rfl
  | p :: xs => by
    show (if isKT (toD p.1) = true then (pairsT (xs.map toD)).map fun kvs => (toD p.1, toD p.2) :: kvs else none) = _
    rw [if_pos (KeyTT.isK p.1), pairsT_D xs]
    rfl
theorem fold_D (xs acc : List (κ × υ)) : (xs.map eD).foldl (fun acc p => putDT acc p.1 p.2) (acc.map eD) = (xs.foldl (fun acc p => putT acc p.1 p.2) acc).map eD := by
  induction xs generalizing acc with
  | nil => rfl
  | cons p xs ih =>
    rw [List.map_cons, List.foldl_cons, List.foldl_cons, ← ih]
    congr 1
    exact put_eT acc p.1 p.2
theorem x_dictT {xs : List (κ × υ)} : gDictT [toD xs] = some (.rs 2 (dD (mergeTT xs))) := by
  show (pairsT (xs.map toD)).map (fun kvs => B.rs 2 (.dict (kvs.foldl (fun acc p => putDT acc p.1 p.2) []))) = _
  rw [pairsT_D, Option.map_some]
  have := fold_D xs []
  rw [List.map_nil] at this
  rw [this]
  rfl
end
end TM
set_option maxRecDepth 100000
namespace TM
open PySem L2 VL VP PySem.W PySem.SeqAt Datum
variable {Γ : Ctx} {α : Type} {po : α → PO} {f : FE} {m : R α}
theorem j_tt (k : J Γ (cX f kF) m po) : J Γ (cX tTrue fun b => match b with
  | true => cX f kF
  | false => kSkip) m po := k
/-- the pools and the place -/
abbrev Dk := List Pl × Int
def DkOk (d : Dk) : Prop := 0 < d.1.length ∧ 0 ≤ d.2
def m__law_draw (d : Dk) (many : Int) : R (Int × Dk) :=
  if drawOk d.1 d.2 many = true then ob (d.1[drawJ d.1 d.2]?) fun p => .ok ((drawP p many).1, (d.1.set (drawJ d.1 d.2) (drawP p many).2, d.2 + 1)) else .no
theorem sim__law_draw (d : Dk) (many : Int) : FnS h__law_draw [.rs 0 (encD d.1 d.2), .fr (toD many)] (m__law_draw d many) (fun a => .d (toD a.1)) (fun a => [(0, .rs 0 (encD a.2.1 a.2.2))]) := by
  have hF : h__law_draw [.rs 0 (encD d.1 d.2), .fr (toD many)] = if drawOk d.1 d.2 many = true then (d.1[drawJ d.1 d.2]?).bind fun p => some (FR.ret (.fr (.int (drawP p many).1)) [some (.rs 0 (encD (d.1.set (drawJ d.1 d.2) (drawP p many).2) (d.2 + 1)))]) else none := by
    show (match decD (encD d.1 d.2) with
      | some (ps, i) => if drawOk ps i many = true then (ps[drawJ ps i]?).bind fun p => some (FR.ret (.fr (.int (drawP p many).1)) [some (.rs 0 (encD (ps.set (drawJ ps i) (drawP p many).2) (i + 1)))]) else none
      | none => none) = _
    rw [decD_enc]
  by_cases hd : drawOk d.1 d.2 many = true
  · rw [if_pos hd] at hF
    have hm : m__law_draw d many = ob (d.1[drawJ d.1 d.2]?) fun p => .ok ((drawP p many).1, (d.1.set (drawJ d.1 d.2) (drawP p many).2, d.2 + 1)) := if_pos hd
    rw [hm]
    cases q : d.1[drawJ d.1 d.2]? with
    | none => trivial
    | some p =>
      rw [q] at hF
      exact ⟨_, _, hF, rfl, fun q hq => by
        rw [List.mem_singleton] at hq
        subst hq
        rfl⟩
  · have hm : m__law_draw d many = .no := if_neg hd
    rw [hm]
    trivial
theorem draw_spec {d : Dk} {many : Int} (h : DkOk d) (h1 : 0 < many) (h2 : many < 2 ^ 64) : ∃ v d', m__law_draw d many = .ok (v, d') ∧ 0 ≤ v ∧ v < many ∧ DkOk d' := by
  obtain ⟨hp, hi⟩ := h
  have hm := Int.emod_nonneg d.2 (b := (d.1.length : Int)) (by omega)
  have hm2 := Int.emod_lt_of_pos d.2 (b := (d.1.length : Int)) (by omega)
  have hj : drawJ d.1 d.2 < d.1.length := by unfold drawJ; omega
  obtain ⟨v1, v2⟩ := drawP_nonneg (p := d.1[drawJ d.1 d.2]) h1
  refine ⟨_, (d.1.set (drawJ d.1 d.2) (drawP d.1[drawJ d.1 d.2] many).2, d.2 + 1), ?_, v1, v2, by show 0 < (d.1.set _ _).length; rw [List.length_set]; exact hp, by show 0 ≤ d.2 + 1; omega⟩
  unfold m__law_draw
  rw [if_pos (show drawOk d.1 d.2 many = true from drawOk_iff.mpr ⟨hp, hi, h1, h2⟩), List.getElem?_eq_getElem hj]
  rfl
def deckN (ns : List Int) : Nat := max 1 (min 63 ns.length)
def m__law_deck (ns : List Int) : R Dk := .ok ((List.range (deckN ns)).foldl (fun s i => s ++ [plOf ns i]) [], 0)
theorem sim__law_deck (ns : List Int) : FnS h__law_deck [.sc ns] (m__law_deck ns) (fun a => .rs 0 (encD a.1 a.2)) (fun a => []) := by
  obtain ⟨e, h⟩ := t__law_deckX ns
  exact ⟨_, e, h, rfl, fun p hp => nomatch hp⟩
end TM
set_option maxRecDepth 100000
set_option maxHeartbeats 0
namespace TM
open PySem VL VP PySem.W.Datum PySem.SeqAt
open PySem.W (Datum Tup)
open L2 (atI ixN)
def m__law_order (deck : Dk) (n : Int) : R (((List Int) × Dk)) :=
  ob (lrg1 n) fun v1 =>
  R.bind (m__law_draw deck ((4 : Int))) fun v2 =>
  if (decide (v2.1 = (0 : Int))) = true then
  (ob (rg1 n) fun xs3 =>
  R.bind (lcS (fun (s9 : (Dk × (List Int))) (x4 : Int) => R.calm (R.bind (m__law_draw s9.1 ((s9.2.length : Int))) fun v10 =>
  ob (popI s9.2 v10.1) fun v11 =>
  .ok (some v11.1, (v10.2, v11.2)))) xs3 [] (v2.2, v1)) fun ys12 =>
  .ok ((ys12.1, ys12.2.1)))
  else
  (R.bind (if (decide (v2.1 = (1 : Int))) = true then
  (.ok ((v1.reverse)))
  else
  (.ok v1)) fun (s13 : (List Int)) =>
  R.bind (R.bind (m__law_draw v2.2 ((7 : Int))) fun v14 =>
  ob (mulI v14.1 ((b2i ((decide ((1 : Int) < n)))))) fun v15 =>
  ob (rg1 v15) fun xs16 =>
  foldM (fun (s27 : (Dk × (List Int))) (x28 : Int) =>
  R.bind (m__law_draw s27.1 ((n - (1 : Int)))) fun v29 =>
  ob (atI s27.2 ((v29.1 + (1 : Int)))) fun v30 =>
  ob (atI s27.2 v29.1) fun v31 =>
  ob (setI s27.2 v29.1 v30) fun v32 =>
  ob (setI v32 ((v29.1 + (1 : Int))) v31) fun v33 =>
  .ok ((v29.2, v33))) xs16 ((v14.2, s13))) fun (s34 : (Dk × (List Int))) =>
  .ok ((s34.2, s34.1)))
theorem sim__law_order (deck : Dk) (n : Int) : FnS h__law_order [.rs 0 (encD deck.1 deck.2), .fr (toD (n : Int))] (m__law_order deck n) (fun a : ((List Int) × Dk) => .o (toD (a.1 : (List Int)))) (fun a : ((List Int) × Dk) => [(0, (.rs 0 (encD a.2.1 a.2.2)))]) :=
  fn_mk (n := 4) (rv := fun a : ((List Int) × Dk) => .o (toD (a.1 : (List Int)))) (ss := [(.rs 0 (encD deck.1 deck.2)), (.d (toD (n : Int)))]) (Γe := fun a : ((List Int) × Dk) => [some (.rs 0 (encD a.2.1 a.2.2)), none, none, none, none, none]) rfl (.cons rfl (.cons rfl All2.nil)) rfl
  (j_own (j_lr1 (j_var rfl (j_lr1op (rd_d rfl)  fun v1 => (j_ownb (j_setO (j_asg (j_call (j_aM rfl (j_aF (j_c (j_fzb (fzb_of fz_b) (j_anil (j_callF rfl (ba_rs rfl (ba_b ba_nil)) (sim__law_draw deck ((4 : Int))) (fun _ => rfl) (fun _ => rfl) fun v2 => (j_fzb (fzb_of fz_b) (j_setD (j_if (j_test (j_bin (j_var rfl (j_c (j_op (rd_d rfl) rd_b (x_eq (τ := Int)) (j_bool rd_b (j_ite (j_ret (j_lc (j_iRg1 (j_var rfl (j_rg1 (rd_d rfl) fun xs3 => (j_lcG (Γs := fun (s9 : (Dk × (List Int))) => [some (.rs 0 (encD s9.1.1 s9.1.2)), some (.d (toD (n : Int))), some (.o (toD (s9.2 : (List Int)))), some (.d (toD (v2.1 : Int))), none, none]) (l := [1, 1, 1, 1, 0, 0]) (D := toD) (E := toD) (xr := fun a => toD a) (v2.2, v1) rfl (fun _ => rfl) (fun s9 x4 => (j_gN (j_tt (j_mth (j_chk rfl rfl (j_dcons (j_call (j_aM rfl (j_aF (j_cb (j_acons (j_var rfl (j_anil (j_cbop (ra_cons (rd_o rfl) ra_nil) (x_len (τ := Int)) (j_fzb (fzb_of fz_b) (j_anil (j_callF rfl (ba_rs rfl (ba_b ba_nil)) (sim__law_draw s9.1 ((s9.2.length : Int))) (fun _ => rfl) (fun _ => rfl) fun v10 => (j_fz fz_b (j_dnil (j_mthopR (z := fun a => .fr (toD a.1)) (es := fun a => a.2.map toD) (y := fun a => toD a.2) rfl (x_popI (τ := Int)) (fun _ => rfl) fun v11 => (j_kf (l := [1, 1, 1, 1, 0, 0]) fz_b rfl rfl))))))))))))))))))))) (fun _ => rfl) fun ys12 => (j_retb (l := [1, 0, 0, 0, 0, 0]) sl_o rfl rfl))))))) (j_seqNil (j_seq (Γs := fun (s13 : (List Int)) => [some (.rs 0 (encD v2.2.1 v2.2.2)), some (.d (toD (n : Int))), some (.o (toD (s13 : (List Int)))), some (.d (toD (v2.1 : Int))), none, none]) (j_if1 (j_test (j_bin (j_var rfl (j_c (j_op (rd_d rfl) rd_b (x_eq (τ := Int)) (j_bool rd_b (j_ite (j_last (j_own (j_un (j_var rfl (j_unop (rd_o rfl) (x_rev (τ := Int)) (j_ownb (j_setO (j_nil (l := [1, 1, 1, 1, 0, 0]) rfl rfl)))))))) (j_nil (l := [1, 1, 1, 1, 0, 0]) rfl rfl))))))))) fun s13 => (j_seq (Γs := fun (s27 : (Dk × (List Int))) => [some (.rs 0 (encD s27.1.1 s27.1.2)), some (.d (toD (n : Int))), some (.o (toD (s27.2 : (List Int)))), some (.d (toD (v2.1 : Int))), none, none]) (j_sFor (j_iRg1 (j_bin (j_call (j_aM rfl (j_aF (j_c (j_fzb (fzb_of fz_b) (j_anil (j_callF rfl (ba_rs rfl (ba_b ba_nil)) (sim__law_draw v2.2 ((7 : Int))) (fun _ => rfl) (fun _ => rfl) fun v14 => (j_cb (j_acons (j_bin (j_var rfl (j_c (j_op (rd_d rfl) rd_b x_gt (j_anil (j_cbop (ra_cons rd_b ra_nil) x_intB (j_opR rd_b rd_b x_mulR fun v15 => (j_rg1 rd_b fun xs16 => (j_for (l := [1, 1, 1, 1, 0, 0]) (D := toD) (Γs := fun (s27 : (Dk × (List Int))) => [some (.rs 0 (encD s27.1.1 s27.1.2)), some (.d (toD (n : Int))), some (.o (toD (s27.2 : (List Int)))), some (.d (toD (v2.1 : Int))), none, none]) ((v14.2, s13)) rfl (fun _ => rfl) fun s27 x28 => (j_gN (j_asg (j_call (j_aM rfl (j_aF (j_bin (j_var rfl (j_c (j_op (rd_d rfl) rd_b x_sub (j_fzb (fzb_of fz_b) (j_anil (j_callF rfl (ba_rs rfl (ba_b ba_nil)) (sim__law_draw s27.1 ((n - (1 : Int)))) (fun _ => rfl) (fun _ => rfl) fun v29 => (j_fzb (fzb_of fz_b) (j_setD (j_last (j_put2 (j_dcons (j_bin (j_var rfl (j_bin (j_var rfl (j_c (j_op (rd_d rfl) rd_b x_add (j_opR (rd_o rfl) rd_b (x_ix (τ := Int)) fun v30 => (j_fz fz_b (j_dcons (j_bin (j_var rfl (j_var rfl (j_opR (rd_o rfl) (rd_d rfl) (x_ix (τ := Int)) fun v31 => (j_fz fz_b (j_dnil (j_has rfl (j_var rfl (j_putI (y := fun a => toD a) rfl (rd_d rfl) (x_set (τ := Int) _) fun v32 => (j_has rfl (j_bin (j_var rfl (j_c (j_op (rd_d rfl) rd_b x_add (j_putI (y := fun a => toD a) rfl rd_b (x_set (τ := Int) _) fun v33 => (j_nil (l := [1, 1, 1, 1, 0, 0]) rfl rfl))))))))))))))))))))))))))))))))))))))))))))))))))))))))))))))) fun s34 => (j_last (j_ret (j_var rfl (j_rets (l := [1, 0, 0, 0, 0, 0]) rfl (fun _ => sl_id) rfl rfl))))))))))))))))))))))))))))))) (fun a p hp => by
    simp only [List.mem_cons, List.not_mem_nil, or_false] at hp
    subst hp; rfl)
def m__law_near (deck : Dk) (order : (List Int)) : R (((List Int) × Dk)) :=
  R.bind (m__law_draw deck ((5 : Int))) fun v1 =>
  if (decide (v1.1 = (0 : Int))) = true then
  (R.bind (m__law_order v1.2 ((order.length : Int))) fun v2 =>
  .ok ((v2.1, v2.2)))
  else
  (if (decide (v1.1 = (1 : Int))) = true then
  (.ok (((order.reverse), v1.2)))
  else
  (if (decide (v1.1 = (2 : Int))) = true then
  (R.bind (m__law_draw v1.2 ((order.length : Int))) fun v3 =>
  ob (popI order v3.1) fun v4 =>
  R.bind (m__law_draw v3.2 ((order.length : Int))) fun v5 =>
  ob (insL v4.2 v5.1 v4.1) fun v6 =>
  .ok ((v6, v5.2)))
  else
  (R.bind (R.bind (m__law_draw v1.2 ((5 : Int))) fun v7 =>
  ob (rg1 v7.1) fun xs8 =>
  foldM (fun (s23 : (Dk × (List Int))) (x24 : Int) =>
  R.bind (m__law_draw s23.1 ((order.length : Int))) fun v25 =>
  R.bind (m__law_draw v25.2 ((order.length : Int))) fun v26 =>
  ob (atI ([v26.1, (min2 (((order.length : Int) - (1 : Int))) ((v25.1 + (1 : Int))))]) ((v1.1 - (3 : Int)))) fun v27 =>
  ob (atI s23.2 v27) fun v28 =>
  ob (atI s23.2 v25.1) fun v29 =>
  ob (setI s23.2 v25.1 v28) fun v30 =>
  ob (setI v30 v27 v29) fun v31 =>
  .ok ((v26.2, v31))) xs8 ((v7.2, order))) fun (s32 : (Dk × (List Int))) =>
  .ok ((s32.2, s32.1)))))
theorem sim__law_near (deck : Dk) (order : (List Int)) : FnS h__law_near [.rs 0 (encD deck.1 deck.2), .fr (toD (order : (List Int)))] (m__law_near deck order) (fun a : ((List Int) × Dk) => .o (toD (a.1 : (List Int)))) (fun a : ((List Int) × Dk) => [(0, (.rs 0 (encD a.2.1 a.2.2)))]) :=
  fn_mk (n := 7) (rv := fun a : ((List Int) × Dk) => .o (toD (a.1 : (List Int)))) (ss := [(.rs 0 (encD deck.1 deck.2)), (.d (toD (order : (List Int))))]) (Γe := fun a : ((List Int) × Dk) => [some (.rs 0 (encD a.2.1 a.2.2)), none, none, none, none, none, none, none, none]) rfl (.cons rfl (.cons rfl All2.nil)) rfl
  (j_own (j_cb (j_acons (j_var rfl (j_anil (j_cbop (ra_cons (rd_d rfl) ra_nil) (x_list (τ := Int)) (j_ownb (j_setO (j_asg (j_cb (j_acons (j_var rfl (j_anil (j_cbop (ra_cons (rd_d rfl) ra_nil) (x_len (τ := Int)) (j_fzb (fzb_of fz_b) (j_setD (j_asg (j_call (j_aM rfl (j_aF (j_c (j_fzb (fzb_of fz_b) (j_anil (j_callF rfl (ba_rs rfl (ba_b ba_nil)) (sim__law_draw deck ((5 : Int))) (fun _ => rfl) (fun _ => rfl) fun v1 => (j_fzb (fzb_of fz_b) (j_setD (j_if (j_test (j_bin (j_var rfl (j_c (j_op (rd_d rfl) rd_b (x_eq (τ := Int)) (j_bool rd_b (j_ite (j_ret (j_call (j_aM rfl (j_aF (j_var rfl (j_fzb (fzb_of (fz_d rfl)) (j_anil (j_callO rfl (ba_rs rfl (ba_b ba_nil)) (sim__law_order v1.2 ((order.length : Int))) (fun _ => rfl) fun v2 => (j_retb (l := [1, 0, 0, 0, 0, 0, 0, 0, 0]) sl_o rfl rfl))))))))) (j_seqNil (j_if (j_test (j_bin (j_var rfl (j_c (j_op (rd_d rfl) rd_b (x_eq (τ := Int)) (j_bool rd_b (j_ite (j_ret (j_un (j_var rfl (j_unop (rd_o rfl) (x_rev (τ := Int)) (j_retb (l := [1, 0, 0, 0, 0, 0, 0, 0, 0]) sl_o rfl rfl))))) (j_seqNil (j_if (j_test (j_bin (j_var rfl (j_c (j_op (rd_d rfl) rd_b (x_eq (τ := Int)) (j_bool rd_b (j_ite (j_assoc (j_asg (j_mth (j_chk rfl rfl (j_dcons (j_call (j_aM rfl (j_aF (j_var rfl (j_fzb (fzb_of (fz_d rfl)) (j_anil (j_callF rfl (ba_rs rfl (ba_b ba_nil)) (sim__law_draw v1.2 ((order.length : Int))) (fun _ => rfl) (fun _ => rfl) fun v3 => (j_fz fz_b (j_dnil (j_mthopR (z := fun a => .fr (toD a.1)) (es := fun a => a.2.map toD) (y := fun a => toD a.2) rfl (x_popI (τ := Int)) (fun _ => rfl) fun v4 => (j_fzb (fzb_of fz_b) (j_setD (j_assoc (j_expr (j_mth (j_chk rfl rfl (j_dcons (j_call (j_aM rfl (j_aF (j_var rfl (j_fzb (fzb_of (fz_d rfl)) (j_anil (j_callF rfl (ba_rs rfl (ba_b ba_nil)) (sim__law_draw v3.2 ((order.length : Int))) (fun _ => rfl) (fun _ => rfl) fun v5 => (j_fz fz_b (j_dcons (j_var rfl (j_fz (fz_d rfl) (j_dnil (j_mthopR (z := fun _ => .fr .none) (es := fun a => a.map toD) (y := fun a => toD a) rfl (x_ins (τ := Int)) (fun _ => rfl) fun v6 => (j_ret (j_var rfl (j_rets (l := [1, 0, 0, 0, 0, 0, 0, 0, 0]) rfl (fun _ => sl_id) rfl rfl)))))))))))))))))))))))))))))))))))))) (j_seqNil (j_seq (Γs := fun (s23 : (Dk × (List Int))) => [some (.rs 0 (encD s23.1.1 s23.1.2)), some (.d (toD (order : (List Int)))), some (.o (toD (s23.2 : (List Int)))), some (.d (toD ((order.length : Int) : Int))), some (.d (toD (v1.1 : Int))), none, none, none, none]) (j_sFor (j_iRg1 (j_call (j_aM rfl (j_aF (j_c (j_fzb (fzb_of fz_b) (j_anil (j_callF rfl (ba_rs rfl (ba_b ba_nil)) (sim__law_draw v1.2 ((5 : Int))) (fun _ => rfl) (fun _ => rfl) fun v7 => (j_rg1 rd_b fun xs8 => (j_for (l := [1, 1, 1, 1, 1, 0, 0, 0, 0]) (D := toD) (Γs := fun (s23 : (Dk × (List Int))) => [some (.rs 0 (encD s23.1.1 s23.1.2)), some (.d (toD (order : (List Int)))), some (.o (toD (s23.2 : (List Int)))), some (.d (toD ((order.length : Int) : Int))), some (.d (toD (v1.1 : Int))), none, none, none, none]) ((v7.2, order)) rfl (fun _ => rfl) fun s23 x24 => (j_gN (j_asg (j_call (j_aM rfl (j_aF (j_var rfl (j_fzb (fzb_of (fz_d rfl)) (j_anil (j_callF rfl (ba_rs rfl (ba_b ba_nil)) (sim__law_draw s23.1 ((order.length : Int))) (fun _ => rfl) (fun _ => rfl) fun v25 => (j_fzb (fzb_of fz_b) (j_setD (j_asg (j_bin (j_lst (j_dcons (j_call (j_aM rfl (j_aF (j_var rfl (j_fzb (fzb_of (fz_d rfl)) (j_anil (j_callF rfl (ba_rs rfl (ba_b ba_nil)) (sim__law_draw v25.2 ((order.length : Int))) (fun _ => rfl) (fun _ => rfl) fun v26 => (j_fz fz_b (j_dcons (j_cb (j_acons (j_bin (j_var rfl (j_c (j_op (rd_d rfl) rd_b x_sub (j_acons (j_bin (j_var rfl (j_c (j_op (rd_d rfl) rd_b x_add (j_anil (j_cbop (ra_cons rd_b (ra_cons rd_b ra_nil)) x_min2 (j_fz fz_b (j_dnil (j_lst2 (toD ([v26.1, (min2 (((order.length : Int) - (1 : Int))) ((v25.1 + (1 : Int))))] : (List Int))) rfl rfl (j_bin (j_var rfl (j_c (j_op (rd_d rfl) rd_b x_sub (j_opR rd_w rd_b (x_ix (τ := Int)) fun v27 => (j_fzb (fzb_of fz_b) (j_setD (j_last (j_put2 (j_dcons (j_bin (j_var rfl (j_var rfl (j_opR (rd_o rfl) (rd_d rfl) (x_ix (τ := Int)) fun v28 => (j_fz fz_b (j_dcons (j_bin (j_var rfl (j_var rfl (j_opR (rd_o rfl) (rd_d rfl) (x_ix (τ := Int)) fun v29 => (j_fz fz_b (j_dnil (j_has rfl (j_var rfl (j_putI (y := fun a => toD a) rfl (rd_d rfl) (x_set (τ := Int) _) fun v30 => (j_has rfl (j_var rfl (j_putI (y := fun a => toD a) rfl (rd_d rfl) (x_set (τ := Int) _) fun v31 => (j_nil (l := [1, 1, 1, 1, 1, 0, 0, 0, 0]) rfl rfl)))))))))))))))))))))))))))))))))))))))))))))))))))))))))))))))))))))))))))))))) fun s32 => (j_last (j_ret (j_var rfl (j_rets (l := [1, 0, 0, 0, 0, 0, 0, 0, 0]) rfl (fun _ => sl_id) rfl rfl)))))))))))))))))))))))))))))))))))))))))))))))))))))))))) (fun a p hp => by
    simp only [List.mem_cons, List.not_mem_nil, or_false] at hp
    subst hp; rfl)
def m_is_whole (thing : Int) : R Bool :=
  .ok ((true && (!false)))
theorem sim_is_whole (thing : Int) : FnS h_is_whole [.fr (toD (thing : Int))] (m_is_whole thing) (fun a : Bool => .d (toD (a : Bool))) (fun a : Bool => []) :=
  fn_mk (n := 0) (rv := fun a : Bool => .d (toD (a : Bool))) (ss := [(.d (toD (thing : Int)))]) (Γe := fun a : Bool => [none]) rfl (.cons rfl All2.nil) rfl
  (j_last (j_ret (j_andVP (j_isi (j_var rfl (j_isi2 (b := true) (rd_d rfl) rfl (j_ko (l := [1]) rd_b rfl rfl)))) (j_notV (j_isi (j_var rfl (j_isi2 (b := false) (rd_d rfl) rfl (j_bool rd_b (j_kob (l := [1]) rfl rfl)))))) (j_retb (l := [0]) sl_d rfl rfl)))) (fun a p hp => nomatch hp)
def m_is_order (thing : (List Int)) : R Bool :=
  if (false || (!((decide ((1 : Int) ≤ (thing.length : Int))) && (decide ((thing.length : Int) ≤ (12 : Int)))))) = true then
  (.ok false)
  else
  (R.bind (lcM (fun (x1 : Int) => R.calm (R.bind (m_is_whole x1) fun v2 =>
  if (!v2) = true then
  (.ok (some x1))
  else
  (.ok none))) thing []) fun ys3 =>
  if (!decide (ys3 = ([] : (List Int)))) = true then
  (.ok false)
  else
  (ob (lrg1 ((thing.length : Int))) fun v4 =>
  .ok ((decide ((thing.mergeSort leI) = v4)))))
theorem sim_is_order (thing : (List Int)) : FnS h_is_order [.fr (toD (thing : (List Int)))] (m_is_order thing) (fun a : Bool => .d (toD (a : Bool))) (fun a : Bool => []) :=
  fn_mk (n := 1) (rv := fun a : Bool => .d (toD (a : Bool))) (ss := [(.d (toD (thing : (List Int))))]) (Γe := fun a : Bool => [none, none]) rfl (.cons rfl All2.nil) rfl
  (j_if (j_or (j_not (j_test (j_isi (j_var rfl (j_isi2 (b := true) (rd_d rfl) rfl (j_bool rd_b (j_kb (l := [1, 0]) rfl rfl))))))) (j_not (j_test (j_chain (j_c (j_cb (j_acons (j_var rfl (j_anil (j_cbop (ra_cons (rd_d rfl) ra_nil) (x_len (τ := Int)) (j_chain3 rd_b rd_b x_le (j_c (j_ko (l := [1, 0]) rd_b rfl rfl)) x_le (j_bool rd_b (j_kb (l := [1, 0]) rfl rfl)))))))))))) (j_ite (j_ret (j_c (j_retb (l := [0, 0]) sl_d rfl rfl))) (j_seqNil (j_if (j_test (j_bin (j_lc (j_iSeq (j_var rfl (j_it (fz_d rfl) rfl (j_lcM (Γs := [some (.d (toD (thing : (List Int)))), none]) (l := [1, 0]) (D := toD) (E := toD) (xr := fun a => toD a) rfl rfl (fun x1 => (j_gN (j_not (j_test (j_callP (j_aP (j_var rfl (j_aPs (j_anil (j_callPop rfl (la_d rfl la_nil) rfl (sim_is_whole x1) (fun _ => rfl) fun v2 => (j_bool rd_b (j_ite (j_var rfl (j_kf (l := [1, 0]) (fz_d rfl) rfl rfl)) (j_skip (l := [1, 0]) rfl rfl))))))))))))) (fun _ => rfl) fun ys3 => (j_lst (j_dnil (j_lst2 (toD (([] : (List Int)) : (List Int))) rfl rfl (j_op rd_w rd_w (x_ne (τ := (List Int))) (j_bool rd_b (j_ite (j_ret (j_c (j_retb (l := [0, 0]) sl_d rfl rfl))) (j_seqNil (j_last (j_ret (j_bin (j_cb (j_acons (j_var rfl (j_anil (j_cbop (ra_cons (rd_d rfl) ra_nil) x_sorted (j_lr1 (j_cb (j_acons (j_var rfl (j_anil (j_cbop (ra_cons (rd_d rfl) ra_nil) (x_len (τ := Int)) (j_lr1op rd_b  fun v4 => (j_op rd_w rd_w (x_eq (τ := (List Int))) (j_retb (l := [0, 0]) sl_d rfl rfl)))))))))))))))))))))))))))))))))))) (fun a p hp => nomatch hp)
end TM
set_option maxRecDepth 100000
set_option maxHeartbeats 0
namespace TM
open PySem VL VP PySem.W.Datum PySem.SeqAt
open PySem.W (Datum Tup)
open L2 (atI ixN)
end TM
set_option maxRecDepth 100000
set_option maxHeartbeats 0
namespace TM
open PySem VL VP PySem.W.Datum PySem.SeqAt
open PySem.W (Datum Tup)
open L2 (atI ixN)
end TM
set_option maxRecDepth 100000
set_option maxHeartbeats 0
namespace TM
open PySem VL VP PySem.W.Datum PySem.SeqAt
open PySem.W (Datum Tup T3)
open L2 (atI ixN)
end TM
set_option maxRecDepth 100000
namespace TM
open PySem VL VP PySem.SeqAt
open L2 (atI ixN)
/-- m tells some a with P a -/
def Sat {α : Type} (m : R α) (P : α → Prop) : Prop := ∃ a, m = .ok a ∧ P a
section
variable {α β σ τ υ γ : Type} {m : R α} {P Q : α → Prop}
theorem Sat.of {a : α} (h : m = .ok a) (p : P a) : Sat m P := ⟨a, h, p⟩
theorem sat_ok {a : α} (p : P a) : Sat (.ok a) P := ⟨a, rfl, p⟩
theorem Sat.mono (h : Sat m Q) (k : ∀ a, Q a → P a) : Sat m P := by
  obtain ⟨a, h1, h2⟩ := h
  exact ⟨a, h1, k a h2⟩
theorem sat_bind {k : α → R β} {P : β → Prop} (h : Sat m Q) (hk : ∀ a, Q a → Sat (k a) P) : Sat (m.bind k) P := by
  obtain ⟨a, rfl, h2⟩ := h
  exact hk a h2
theorem sat_calm (h : Sat m P) : Sat m.calm P := by
  obtain ⟨a, rfl, h2⟩ := h
  exact ⟨a, rfl, h2⟩
theorem sat_iff {a : α} : Sat m (fun x => x = a) ↔ m = .ok a := ⟨fun ⟨b, h, e⟩ => e ▸ h, fun h => ⟨a, h, rfl⟩⟩
theorem Sat.eq {a : α} (h : Sat m fun x => x = a) : m = .ok a := sat_iff.mp h
theorem sat_ite {b : Bool} {m1 m2 : R α} (h1 : b = true → Sat m1 P) (h2 : b = false → Sat m2 P) : Sat (if b = true then m1 else m2) P := by
  cases b with
  | true => exact h1 rfl
  | false => exact h2 rfl
theorem sat_foldM {mb : σ → τ → R σ} (I : Nat → σ → Prop) : ∀ (xs : List τ) (k : Nat) (s : σ), I k s → (∀ i s (h : i < xs.length), I (k + i) s → Sat (mb s xs[i]) (I (k + i + 1))) → Sat (foldM mb xs s) (I (k + xs.length))
  | [], k, s, h, _ => sat_ok h
  | x :: xs, k, s, h, hb => by
    unfold foldM
    refine sat_bind (hb 0 s (by simp) h) fun s' h' => ?_
    have := sat_foldM I xs (k + 1) s' h' fun i s hi hs => by
      have := hb (i + 1) s (by simpa using hi) (by rw [show k + (i + 1) = k + 1 + i by omega]; exact hs)
      rw [show k + (i + 1) + 1 = k + 1 + i + 1 by omega] at this
      exact this
    rw [show k + (x :: xs).length = k + 1 + xs.length by rw [List.length_cons]; omega]
    exact this
theorem sat_fold {mb : σ → τ → R σ} {xs : List τ} {s : σ} (I : σ → Prop) (h : I s) (hb : ∀ s x, x ∈ xs → I s → Sat (mb s x) I) : Sat (foldM mb xs s) I :=
  sat_foldM (fun _ => I) xs 0 s h fun i s hi hs => hb s _ (List.getElem_mem hi) hs
/-- a loop that is never left before its end -/
theorem sat_loopI {mb : σ → τ → R (Fl σ γ)} (I : Nat → σ → Prop) : ∀ (xs : List τ) (k : Nat) (s : σ), I k s → (∀ i s (h : i < xs.length), I (k + i) s → Sat (mb s xs[i]) fun r => ∃ s', r = .nx s' ∧ I (k + i + 1) s') → Sat (loopM mb xs s) fun r => ∃ s', r = .nx s' ∧ I (k + xs.length) s'
  | [], k, s, h, _ => sat_ok ⟨s, rfl, h⟩
  | x :: xs, k, s, h, hb => by
    unfold loopM
    refine sat_bind (hb 0 s (by simp) h) fun r ⟨s', hr, h'⟩ => ?_
    subst hr
    have := sat_loopI I xs (k + 1) s' h' fun i s hi hs => by
      have := hb (i + 1) s (by simpa using hi) (by rw [show k + (i + 1) = k + 1 + i by omega]; exact hs)
      rw [show k + (i + 1) + 1 = k + 1 + i + 1 by omega] at this
      exact this
    rw [show k + (x :: xs).length = k + 1 + xs.length by rw [List.length_cons]; omega]
    exact this
theorem sat_loop {mb : σ → τ → R (Fl σ γ)} {xs : List τ} {s : σ} (I : σ → Prop) (h : I s) (hb : ∀ s x, x ∈ xs → I s → Sat (mb s x) fun r => ∃ s', r = .nx s' ∧ I s') : Sat (loopM mb xs s) fun r => ∃ s', r = .nx s' ∧ I s' :=
  sat_loopI (fun _ => I) xs 0 s h fun i s hi hs => hb s _ (List.getElem_mem hi) hs
/-- the loop's rest, where it is never left -/
theorem sat_out {mb : R (Fl σ γ)} {mk : σ → R γ} {I : σ → Prop} {P : γ → Prop} (h : Sat mb fun r => ∃ s', r = .nx s' ∧ I s') (hk : ∀ s, I s → Sat (mk s) P) : Sat (mb.bind (Fl.out mk)) P := by
  obtain ⟨r, rfl, s', rfl, h2⟩ := h
  exact hk s' h2
theorem sat_outF {mb : R (Fl σ γ)} {mk : σ → R (Fl β γ)} {I : σ → Prop} {P : Fl β γ → Prop} (h : Sat mb fun r => ∃ s', r = .nx s' ∧ I s') (hk : ∀ s, I s → Sat (mk s) P) : Sat (mb.bind (Fl.outF mk)) P := by
  obtain ⟨r, rfl, s', rfl, h2⟩ := h
  exact hk s' h2
theorem sat_lcS {step : σ → τ → R (Option υ × σ)} (I : Nat → List υ → σ → Prop) : ∀ (xs : List τ) (k : Nat) (acc : List υ) (s : σ), acc.length ≤ k → k + xs.length ≤ big → I k acc s → (∀ i acc s (h : i < xs.length), I (k + i) acc s → Sat (step s xs[i]) fun r => match r with
    | (none, s') => I (k + i + 1) acc s'
    | (some y, s') => I (k + i + 1) (acc ++ [y]) s') → Sat (lcS step xs acc s) fun r => I (k + xs.length) r.1 r.2
  | [], k, acc, s, _, _, h, _ => sat_ok h
  | x :: xs, k, acc, s, hl, hx, h, hb => by
    rw [List.length_cons] at hx
    have key : ∀ acc' s', acc'.length ≤ k + 1 → I (k + 1) acc' s' → Sat (lcS step xs acc' s') fun r => I (k + (x :: xs).length) r.1 r.2 := fun acc' s' hl' h' => by
      have := sat_lcS I xs (k + 1) acc' s' hl' (by omega) h' fun i acc s hi hs => by
        have := hb (i + 1) acc s (by simpa using hi) (by rw [show k + (i + 1) = k + 1 + i by omega]; exact hs)
        rw [show k + (i + 1) + 1 = k + 1 + i + 1 by omega] at this
        exact this
      rw [show k + (x :: xs).length = k + 1 + xs.length by rw [List.length_cons]; omega]
      exact this
    unfold lcS
    refine sat_bind (hb 0 acc s (by simp) h) fun r hr => ?_
    obtain ⟨y, s'⟩ := r
    cases y with
    | none => exact key acc s' (by omega) hr
    | some y =>
      show Sat (if acc.length < big then lcS step xs (acc ++ [y]) s' else .no) _
      rw [if_pos (by omega)]
      exact key _ s' (by rw [List.length_append, List.length_singleton]; omega) hr
theorem lcM_eq {step : τ → R (Option υ)} (p : τ → Bool) (f : τ → υ) {xs : List τ} (hl : xs.length ≤ big) (h : ∀ x ∈ xs, step x = .ok (if p x = true then some (f x) else none)) : lcM (fun x => (step x).calm) xs [] = .ok ((xs.filter p).map f) := by
  have key : ∀ (xs : List τ) (acc : List υ), acc.length + xs.length ≤ big → (∀ x ∈ xs, step x = .ok (if p x = true then some (f x) else none)) → lcM (fun x => (step x).calm) xs acc = .ok (acc ++ (xs.filter p).map f) := by
    intro xs
    induction xs with
    | nil => intro acc _ _; simp [lcM]
    | cons x xs ih =>
      intro acc hl h
      rw [List.length_cons] at hl
      unfold lcM
      rw [h x List.mem_cons_self]
      by_cases hp : p x = true
      · rw [if_pos hp, List.filter_cons_of_pos hp]
        show (if acc.length < big then lcM _ xs (acc ++ [f x]) else .no) = _
        rw [if_pos (by omega), ih (acc ++ [f x]) (by rw [List.length_append, List.length_singleton]; omega) fun y hy => h y (List.mem_cons_of_mem _ hy), List.map_cons, List.append_assoc]
        rfl
      · rw [if_neg hp, List.filter_cons_of_neg hp]
        exact ih acc (by omega) fun y hy => h y (List.mem_cons_of_mem _ hy)
  have := key xs [] (by simpa using hl) h
  simpa using this
/-- each item told, none left out -/
theorem lcM_map {step : τ → R (Option υ)} (f : τ → υ) {xs : List τ} (hl : xs.length ≤ big) (h : ∀ x ∈ xs, step x = .ok (some (f x))) : lcM (fun x => (step x).calm) xs [] = .ok (xs.map f) := by
  have := lcM_eq (fun _ => true) f hl h
  rwa [List.filter_eq_self.mpr fun _ _ => rfl] at this
theorem lcP_eq (p : τ → Bool) (f : τ → υ) {xs : List τ} (hl : xs.length ≤ big) : lcP p f xs = some ((xs.filter p).map f) := if_pos hl
theorem lcP_map (f : τ → υ) {xs : List τ} (hl : xs.length ≤ big) : lcP (fun _ => true) f xs = some (xs.map f) := by
  rw [lcP_eq _ _ hl, List.filter_eq_self.mpr fun _ _ => rfl]
theorem lcP_none (f : τ → υ) {xs : List τ} (hl : xs.length ≤ big) : lcP (fun _ => false) f xs = some [] := by
  rw [lcP_eq _ _ hl, List.filter_eq_nil_iff.mpr (fun _ _ => by decide)]
  rfl
end
theorem rngL_iota (n : Nat) : rngL 0 n = iota n := by
  unfold rngL iota
  exact List.map_congr_left fun i _ => by rw [Int.zero_add]
theorem rg1_nat {n : Nat} (h : n ≤ 1000000000) : rg1 (n : Int) = some (iota n) := by
  unfold rg1 lim
  rw [if_pos (decide_eq_true (by omega)), Int.toNat_natCast, rngL_iota]
theorem rg1_of {i : Int} (h : i.natAbs ≤ 1000000000) : rg1 i = some (iota i.toNat) := by
  unfold rg1 lim
  rw [if_pos (decide_eq_true (by omega)), rngL_iota]
theorem rg2_of {i j : Int} (hi : i.natAbs ≤ 1000000000) (hj : j.natAbs ≤ 1000000000) : rg2 i j = some (rngL i (j - i).toNat) := by
  unfold rg2 lim
  rw [if_pos ⟨decide_eq_true (by omega), decide_eq_true (by omega)⟩]
theorem lrg1_of {i : Int} (h : i.natAbs ≤ 1000000) : lrg1 i = some (iota i.toNat) := by
  unfold lrg1 rgOk big
  rw [if_pos (by rw [Bool.and_eq_true, Bool.and_eq_true, decide_eq_true_eq, decide_eq_true_eq, decide_eq_true_eq]; omega), rngL_iota]
theorem lrg1_nat {n : Nat} (h : n ≤ 1000000) : lrg1 (n : Int) = some (iota n) := by
  have := lrg1_of (i := (n : Int)) (by omega)
  rwa [Int.toNat_natCast] at this
theorem iota_len (n : Nat) : (iota n).length = n := by unfold iota; rw [List.length_map, List.length_range]
theorem iota_get {n i : Nat} (h : i < (iota n).length) : (iota n)[i] = (i : Int) := by
  simp [iota]
theorem mem_iota {n : Nat} {x : Int} : x ∈ iota n ↔ 0 ≤ x ∧ x < n := by
  unfold iota
  rw [List.mem_map]
  constructor
  · rintro ⟨i, hi, rfl⟩
    have := List.mem_range.mp hi
    omega
  · intro h
    exact ⟨x.toNat, List.mem_range.mpr (by omega), by omega⟩
theorem rngL_len (lo : Int) (n : Nat) : (rngL lo n).length = n := by unfold rngL; rw [List.length_map, List.length_range]
theorem rngL_get {lo : Int} {n i : Nat} (h : i < (rngL lo n).length) : (rngL lo n)[i] = lo + (i : Int) := by
  simp [rngL]
section
variable {τ : Type} {xs : List τ} {i : Int}
theorem ixN_of {n : Nat} {i : Int} (h0 : 0 ≤ i) (h1 : i < n) : ixN n i = some i.toNat := by
  unfold ixN
  rw [if_pos h0, if_pos h1]
theorem at_of (h0 : 0 ≤ i) (h1 : i < xs.length) : atI xs i = some (xs[i.toNat]'(by omega)) := by
  unfold atI
  rw [ixN_of h0 h1, Option.bind_some, List.getElem?_eq_getElem]
theorem at_nat {j : Nat} (h : j < xs.length) : atI xs (j : Int) = some xs[j] := by
  rw [at_of (by omega) (by omega)]
  simp
theorem setI_of {v : τ} (h0 : 0 ≤ i) (h1 : i < xs.length) : setI xs i v = some (xs.set i.toNat v) := by
  unfold setI
  rw [ixN_of h0 h1]
  rfl
theorem appL_of {v : τ} (h : xs.length < big) : appL xs v = some (xs ++ [v]) := if_pos h
theorem addL_of {ys : List τ} (h : xs.length + ys.length ≤ big) : addL xs ys = some (xs ++ ys) := if_pos h
theorem popI_of (h0 : 0 ≤ i) (h1 : i < xs.length) (hb : xs.length ≤ big) : popI xs i = some (xs[i.toNat]'(by omega), xs.eraseIdx i.toNat) := by
  unfold popI
  have hs : seqIndex? i xs.length = some i.toNat := (L2.ixN_seq (ixN_of h0 h1)).1
  have hb' : xs.length ≤ 1000000 := hb
  rw [if_pos (by unfold lim63; exact decide_eq_true (by omega)), hs, Option.bind_some, List.getElem?_eq_getElem (by omega)]
  rfl
theorem insL_of {v : τ} (h0 : 0 ≤ i) (h1 : i.natAbs ≤ 1000000) (hb : xs.length < big) : insL xs i v = some (xs.take i.toNat ++ [v] ++ xs.drop i.toNat) := by
  unfold insL
  rw [if_pos ⟨h0, by omega, hb⟩]
end
theorem modI_of {a b : Int} (h : 0 < b) : modI a b = some (a % b) := if_pos (decide_eq_true h)
theorem mulI_l {a b : Int} (h : a.natAbs < 2 ^ 64) : mulI a b = some (a * b) := by
  unfold mulI cMul
  rw [if_pos (by rw [decide_eq_true h]; rfl)]
theorem mulI_r {a b : Int} (h : b.natAbs < 2 ^ 64) : mulI a b = some (a * b) := by
  unfold mulI cMul
  rw [if_pos (by rw [decide_eq_true h, Bool.or_true])]
/-- the law's answer, by its mirror -/
theorem law_of {F : Fn} {ns : List Int} {m : R Bool} {ch : Bool → List (Nat × Sl)} (h : FnS F [.sc ns] m (fun a => .d (W.Datum.toD a)) ch) (hm : Sat m fun b => b = true) : ∃ e, F [.sc ns] = some (.ret (.fr (.bool true)) e) := by
  have := hm.eq
  subst this
  obtain ⟨b, e, h1, h2, _⟩ := h
  have := solid_fr (b := b) h2 rfl
  subst this
  exact ⟨e, h1⟩
end TM
set_option maxRecDepth 100000
namespace D
open VP (iota IsOrd)
def sm : Nat → (Nat → Nat) → Nat
  | 0, _ => 0
  | n + 1, f => sm n f + f n
def bn (b : Bool) : Nat := if b = true then 1 else 0
/-- a one-to-one change of names below n, with the way back -/
structure Bij (n : Nat) (π ρ : Nat → Nat) : Prop where
  lt : ∀ i, i < n → π i < n
  lt' : ∀ i, i < n → ρ i < n
  l : ∀ i, i < n → ρ (π i) = i
  r : ∀ i, i < n → π (ρ i) = i
theorem Bij.symm {n : Nat} {π ρ : Nat → Nat} (h : Bij n π ρ) : Bij n ρ π := ⟨h.lt', h.lt, h.r, h.l⟩
def mx : Nat → (Nat → Nat) → Nat
  | 0, _ => 0
  | n + 1, f => max (mx n f) (f n)
/-- ordered pairs that h has one way and g the other -/
def inv (n : Nat) (h g : Nat → Nat) : Nat := sm n fun a => sm n fun b => bn (decide (h a < h b) && decide (g b < g a))
/-- the thing at a place -/
def th (xs : List Int) (p : Nat) : Nat := (xs.getD p 0).toNat
/-- the place of a thing -/
def pl (xs : List Int) (t : Nat) : Nat := xs.idxOf (t : Int)
section
variable {n : Nat} {xs ys zs : List Int}
theorem ord_nodup (h : IsOrd n xs) : xs.Nodup := by
  have : (iota n).Nodup := by
    unfold VP.iota List.Nodup
    rw [List.pairwise_map]
    exact List.nodup_range.imp fun {a b} hab e => hab (by omega)
  exact (List.Perm.nodup_iff h).mpr this
theorem ord_mem (h : IsOrd n xs) {x : Int} : x ∈ xs ↔ 0 ≤ x ∧ x < n := by
  rw [List.Perm.mem_iff h]
  unfold VP.iota
  rw [List.mem_map]
  constructor
  · rintro ⟨i, hi, rfl⟩
    have := List.mem_range.mp hi
    omega
  · intro h
    exact ⟨x.toNat, List.mem_range.mpr (by omega), by omega⟩
theorem ord_get (h : IsOrd n xs) {p : Nat} (hp : p < n) : xs[p]? = some ((th xs p : Nat) : Int) := by
  have hl : p < xs.length := by rw [h.length]; exact hp
  have hm := (ord_mem h).mp (List.getElem_mem hl)
  unfold th
  rw [List.getElem?_eq_getElem hl, List.getD_eq_getElem?_getD, List.getElem?_eq_getElem hl]
  show some xs[p] = some (((xs[p]).toNat : Nat) : Int)
  congr 1
  omega
theorem th_lt (h : IsOrd n xs) {p : Nat} (hp : p < n) : th xs p < n := by
  have hm := (ord_mem h).mp (List.mem_of_getElem? (ord_get h hp))
  omega
theorem pl_lt (h : IsOrd n xs) {t : Nat} (ht : t < n) : pl xs t < n := by
  unfold pl
  have hm : (t : Int) ∈ xs := (ord_mem h).mpr (by omega)
  have := List.idxOf_lt_length_iff.mpr hm
  rwa [h.length] at this
theorem th_pl (h : IsOrd n xs) {t : Nat} (ht : t < n) : th xs (pl xs t) = t := by
  have h1 := pl_lt h ht
  have h2 := ord_get h h1
  have h3 : pl xs t < xs.length := by rw [h.length]; exact h1
  rw [List.getElem?_eq_getElem h3] at h2
  have h4 : xs[pl xs t] = (t : Int) := List.getElem_idxOf h3
  have := Option.some.inj h2
  omega
theorem pl_th (h : IsOrd n xs) {p : Nat} (hp : p < n) : pl xs (th xs p) = p := by
  have h1 := ord_get h hp
  have hl : p < xs.length := by rw [h.length]; exact hp
  rw [List.getElem?_eq_getElem hl] at h1
  have h2 := (ord_nodup h).idxOf_getElem p hl
  rw [Option.some.inj h1] at h2
  exact h2
/-- the difference of two numbers -/
def df (a b : Nat) : Nat := (a - b) + (b - a)
def swapD (n : Nat) (xs ys : List Int) : Nat := inv n (pl xs) (pl ys)
def spotD (n : Nat) (xs ys : List Int) : Nat := sm n fun p => bn (th xs p != th ys p)
def shiftD (n : Nat) (xs ys : List Int) : Nat := mx n fun t => df (pl xs t) (pl ys t)
end
end D
set_option maxRecDepth 100000
namespace D
open VP (iota IsOrd)
end D
set_option maxRecDepth 100000
namespace D
open VP (iota IsOrd)
variable {n : Nat} {xs ys zs : List Int}
/-- the list of n numbers told by f -/
def lst (n : Nat) (f : Nat → Nat) : List Int := (List.range n).map fun i => ((f i : Nat) : Int)
theorem iota_ord : IsOrd n (iota n) := List.Perm.refl _
/-- the back of an order -/
def bk (n : Nat) (xs : List Int) : List Int := lst n (pl xs)
theorem rev_ord (h : IsOrd n xs) : IsOrd n xs.reverse := (List.reverse_perm xs).trans h
inductive Way where
  | swap | spot | shift
def far (w : Way) (n : Nat) (xs ys : List Int) : Nat := match w with
  | .swap => swapD n xs ys
  | .spot => spotD n xs ys
  | .shift => shiftD n xs ys
variable {w : Way}
def most (w : Way) (n : Nat) : Nat := match w with
  | .swap => n * (n - 1) / 2
  | .spot => n
  | .shift => n - 1
end D
set_option maxRecDepth 100000
namespace TM
open PySem VL VP D PySem.SeqAt
open L2 (atI ixN)
variable {n : Nat} {xs ys zs : List Int}
theorem sort_iota (h : IsOrd n xs) : xs.mergeSort leI = iota n := sort_ord h
theorem is_order_ok (h : IsOrd n xs) (h1 : 1 ≤ n) (h2 : n ≤ 12) : m_is_order xs = .ok true := by
  have hl := h.length
  unfold m_is_order
  rw [if_neg (by rw [decide_eq_true (by omega : (1 : Int) ≤ (xs.length : Int)), decide_eq_true (by omega : (xs.length : Int) ≤ 12)]; decide)]
  have e : lcM (fun (x1 : Int) => R.calm (R.bind (m_is_whole x1) fun v2 => if (!v2) = true then (.ok (some x1)) else (.ok none))) xs [] = .ok ([] : List Int) := by
    have := lcM_eq (step := fun (x1 : Int) => (R.bind (m_is_whole x1) fun v2 => if (!v2) = true then (.ok (some x1)) else (.ok none))) (fun _ => false) (fun x => x) (xs := xs) (by unfold big; omega) (fun x _ => rfl)
    rw [this, List.filter_eq_nil_iff.mpr (fun _ _ => by decide)]
    rfl
  rw [e, bind_ok, if_neg (by decide), hl, lrg1_nat (by omega), ob_some, sort_iota h, decide_eq_true rfl]
theorem enumT_len {τ : Type} (xs : List τ) : ∀ i, (enumT i xs).length = xs.length := by
  induction xs with
  | nil => intro i; rfl
  | cons x xs ih => intro i; show (enumT (i + 1) xs).length + 1 = _; rw [ih]; rfl
theorem enumT_get {τ : Type} : ∀ (xs : List τ) (i k : Nat) (h : k < (enumT i xs).length), (enumT i xs)[k] = (((i + k : Nat) : Int), xs[k]'(by rw [← enumT_len xs i]; exact h))
  | [], i, k, h => by simp [enumT] at h
  | x :: xs, i, 0, h => rfl
  | x :: xs, i, k + 1, h => by
    show (enumT (i + 1) xs)[k]'_ = _
    rw [enumT_get xs (i + 1) k]
    show ((((i + 1 + k : Nat)) : Int), xs[k]'_) = (((i + (k + 1) : Nat) : Int), xs[k]'_)
    rw [show i + 1 + k = i + (k + 1) by omega]
theorem mulL_zeros {n : Nat} (h : n ≤ 1000) : mulL [(0 : Int)] (n : Int) = some (List.replicate n 0) := by
  unfold mulL big
  rw [if_pos ⟨by omega, by simp; omega⟩, Int.toNat_natCast]
  congr 1
  induction n with
  | zero => rfl
  | succ n ih =>
    rw [List.replicate_succ, List.flatten_cons, ih (by omega), List.replicate_succ]
    rfl
instance : DecidableEq Way := fun a b => by cases a <;> cases b <;> first | exact isTrue rfl | exact isFalse (fun h => by cases h)
theorem mem_iotaN {n : Nat} {x : Int} (h : x ∈ iota n) : ∃ p : Nat, p < n ∧ x = (p : Int) := by
  obtain ⟨h1, h2⟩ := mem_iota.mp h
  exact ⟨x.toNat, by omega, by omega⟩
theorem popI_perm {xs : List Int} {i : Int} (h0 : 0 ≤ i) (h1 : i < xs.length) (hb : xs.length ≤ big) : ∃ x ys, popI xs i = some (x, ys) ∧ (x :: ys).Perm xs ∧ ys.length + 1 = xs.length := by
  refine ⟨_, _, popI_of h0 h1 hb, ?_, ?_⟩
  · exact erase_perm (by omega)
  · rw [List.length_eraseIdx, if_pos (by omega)]; omega
theorem swap_ok {xs : List Int} {p q : Int} (h0 : 0 ≤ p) (h1 : p < xs.length) (h2 : 0 ≤ q) (h3 : q < xs.length) : ∃ a b ys zs, atI xs q = some a ∧ atI xs p = some b ∧ setI xs p a = some ys ∧ setI ys q b = some zs ∧ zs.Perm xs := by
  refine ⟨_, _, _, _, at_of h2 h3, at_of h0 h1, setI_of h0 h1, setI_of h2 (by rw [List.length_set]; exact h3), ?_⟩
  exact swap_perm (by omega) (by omega)
/-- all taken out, one after the other -/
theorem pops_ok {deck : Dk} {left : List Int} {xs3 : List Int} (hd : DkOk deck) (hl : xs3.length = left.length) (h2 : left.length ≤ 1000) :
    Sat (lcS (fun (s9 : (Dk × (List Int))) (x4 : Int) => R.calm (R.bind (m__law_draw s9.1 ((s9.2.length : Int))) fun v10 =>
    ob (popI s9.2 v10.1) fun v11 =>
    .ok (some v11.1, (v10.2, v11.2)))) xs3 [] (deck, left)) fun r => r.1.Perm left ∧ DkOk r.2.1 := by
  have := sat_lcS (step := fun (s9 : (Dk × (List Int))) (x4 : Int) => R.calm (R.bind (m__law_draw s9.1 ((s9.2.length : Int))) fun v10 =>
    ob (popI s9.2 v10.1) fun v11 =>
    R.ok (some v11.1, (v10.2, v11.2)))) (fun k acc s => DkOk s.1 ∧ (acc ++ s.2).Perm left ∧ s.2.length + k = left.length) xs3 0 [] (deck, left) (by simp) (by unfold big; omega) ⟨hd, List.Perm.refl _, by show left.length + 0 = left.length; omega⟩ fun i acc s hi hs => by
      obtain ⟨s1, s2⟩ := s
      obtain ⟨q1, q2, q3⟩ := hs
      dsimp only at q1 q2 q3 ⊢
      obtain ⟨v, d', e1, v0, v1, ok'⟩ := draw_spec (many := (s2.length : Int)) q1 (by omega) (by omega)
      obtain ⟨x, ys, e2, p1, p2⟩ := popI_perm (xs := s2) v0 (by omega) (by unfold big; omega)
      refine sat_calm ?_
      rw [e1, bind_ok, e2, ob_some]
      refine sat_ok ⟨ok', ?_, by dsimp only; omega⟩
      refine List.Perm.trans ?_ q2
      rw [List.append_assoc]
      exact List.Perm.append_left acc p1
  refine this.mono fun r ⟨h1, h3, h4⟩ => ⟨?_, h1⟩
  have h5 : r.2.2 = [] := List.eq_nil_of_length_eq_zero (by omega)
  rw [h5, List.append_nil] at h3
  exact h3
theorem order_ok {deck : Dk} (hd : DkOk deck) (h1 : 1 ≤ n) (h2 : n ≤ 12) : Sat (m__law_order deck (n : Int)) fun r => IsOrd n r.1 ∧ DkOk r.2 := by
  unfold m__law_order
  obtain ⟨v, d1, e1, v0, v1, ok1⟩ := draw_spec (many := 4) hd (by decide) (by decide)
  rw [lrg1_nat (by omega), ob_some, e1, bind_ok]
  refine sat_ite (fun _ => ?_) fun _ => ?_
  · rw [rg1_nat (by omega), ob_some]
    exact sat_bind (pops_ok ok1 rfl (by rw [iota_len]; omega)) fun r hr => sat_ok hr
  · refine sat_bind (Q := fun s => IsOrd n s) ?_ fun s hs => ?_
    · refine sat_ite (fun _ => sat_ok (rev_ord iota_ord)) fun _ => sat_ok iota_ord
    obtain ⟨u, d2, e2, u0, u1, ok2⟩ := draw_spec (many := 7) ok1 (by decide) (by decide)
    refine sat_bind (Q := fun (s : Dk × List Int) => IsOrd n s.2 ∧ DkOk s.1) ?_ fun s h => sat_ok h
    rw [e2, bind_ok, mulI_l (by omega), ob_some]
    have hb : 0 ≤ b2i (decide ((1 : Int) < n)) ∧ b2i (decide ((1 : Int) < n)) ≤ 1 := by unfold b2i; split <;> omega
    have hm : (u * b2i (decide ((1 : Int) < n))).natAbs ≤ 1000000000 := by
      have h3 : b2i (decide ((1 : Int) < n)) = 0 ∨ b2i (decide ((1 : Int) < n)) = 1 := by omega
      rcases h3 with h3 | h3 <;> rw [h3] <;> omega
    rw [rg1_of hm, ob_some]
    by_cases hn : n = 1
    · subst hn
      have : u * b2i (decide ((1 : Int) < ((1 : Nat) : Int))) = 0 := by rw [show b2i (decide ((1 : Int) < ((1 : Nat) : Int))) = 0 by decide]; omega
      rw [this]
      exact sat_ok ⟨hs, ok2⟩
    · refine sat_fold (fun (s : Dk × List Int) => IsOrd n s.2 ∧ DkOk s.1) ⟨hs, ok2⟩ fun s x _ ⟨q1, q2⟩ => ?_
      obtain ⟨v, d', e3, v0, v1, ok3⟩ := draw_spec (many := (n : Int) - 1) q2 (by omega) (by omega)
      rw [e3, bind_ok]
      have hl := q1.length
      obtain ⟨a, b, ys, zs, g1, g2, g3, g4, g5⟩ := swap_ok (xs := s.2) (p := v) (q := v + 1) v0 (by omega) (by omega) (by omega)
      dsimp only
      rw [g1, ob_some, g2, ob_some, g3, ob_some, g4, ob_some]
      exact sat_ok ⟨g5.trans q1, ok3⟩
theorem near_ok {deck : Dk} (hd : DkOk deck) (hx : IsOrd n xs) (h1 : 1 ≤ n) (h2 : n ≤ 12) : Sat (m__law_near deck xs) fun r => IsOrd n r.1 ∧ DkOk r.2 := by
  unfold m__law_near
  have hl := hx.length
  obtain ⟨v, d1, e1, v0, v1, ok1⟩ := draw_spec (many := 5) hd (by decide) (by decide)
  rw [e1, bind_ok]
  refine sat_ite (fun _ => ?_) fun w0 => ?_
  · rw [hl]
    exact sat_bind (order_ok ok1 h1 h2) fun r hr => sat_ok hr
  refine sat_ite (fun _ => sat_ok ⟨rev_ord hx, ok1⟩) fun w1 => ?_
  refine sat_ite (fun _ => ?_) fun w2 => ?_
  · obtain ⟨u, d2, e2, u0, u1, ok2⟩ := draw_spec (many := (xs.length : Int)) ok1 (by omega) (by omega)
    obtain ⟨x, ys, e3, p1, p2⟩ := popI_perm (xs := xs) u0 (by omega) (by unfold big; omega)
    obtain ⟨t, d3, e4, t0, t1, ok3⟩ := draw_spec (many := (xs.length : Int)) ok2 (by omega) (by omega)
    rw [e2, bind_ok, e3, ob_some, e4, bind_ok]
    dsimp only
    rw [insL_of t0 (by omega) (by unfold big; omega), ob_some]
    refine sat_ok ⟨?_, ok3⟩
    refine List.Perm.trans ?_ (p1.trans hx)
    rw [List.append_assoc]
    refine List.Perm.trans List.perm_middle ?_
    exact List.Perm.cons x (by show (List.take t.toNat ys ++ List.drop t.toNat ys).Perm ys; rw [List.take_append_drop])
  · obtain ⟨u, d2, e2, u0, u1, ok2⟩ := draw_spec (many := 5) ok1 (by decide) (by decide)
    refine sat_bind (Q := fun (s : Dk × List Int) => IsOrd n s.2 ∧ DkOk s.1) ?_ fun s h => sat_ok h
    rw [e2, bind_ok, rg1_of (by omega), ob_some]
    refine sat_fold (fun (s : Dk × List Int) => IsOrd n s.2 ∧ DkOk s.1) ⟨hx, ok2⟩ fun s x _ ⟨q1, q2⟩ => ?_
    obtain ⟨p, d3, e3, p0, p1, ok3⟩ := draw_spec (many := (xs.length : Int)) q2 (by omega) (by omega)
    obtain ⟨q, d4, e4, r0, r1, ok4⟩ := draw_spec (many := (xs.length : Int)) ok3 (by omega) (by omega)
    have hl2 := q1.length
    have w0' := of_decide_eq_false w0
    have w1' := of_decide_eq_false w1
    have w2' := of_decide_eq_false w2
    dsimp only at w0' w1' w2'
    rw [e3, bind_ok, e4, bind_ok, at_of (by dsimp only; omega) (by dsimp only [List.length_cons, List.length_nil]; omega), ob_some]
    have hq : ∃ r : Int, 0 ≤ r ∧ r < s.2.length ∧ ([q, min2 ((xs.length : Int) - 1) (p + 1)] : List Int)[(v - 3).toNat]'(by dsimp only [List.length_cons, List.length_nil]; omega) = r := by
      have : v = 3 ∨ v = 4 := by omega
      rcases this with rfl | rfl
      · exact ⟨q, r0, by omega, rfl⟩
      · refine ⟨min2 ((xs.length : Int) - 1) (p + 1), ?_, ?_, rfl⟩ <;> unfold min2 <;> split <;> omega
    obtain ⟨r, r2, r3, r4⟩ := hq
    dsimp only
    rw [r4]
    obtain ⟨a, b, ys, zs, g1, g2, g3, g4, g5⟩ := swap_ok (xs := s.2) (p := p) (q := r) p0 (by omega) r2 r3
    rw [g1, ob_some, g2, ob_some, g3, ob_some, g4, ob_some]
    exact sat_ok ⟨g5.trans q1, ok4⟩
end TM
set_option maxRecDepth 100000
namespace D
open VP (iota IsOrd)
variable {n : Nat} {xs ys zs : List Int}
/-- the place in ys of the thing at p in xs -/
def gp (xs ys : List Int) (p : Nat) : Nat := pl ys (th xs p)
end D
set_option maxRecDepth 100000
namespace TM
open PySem VL VP D PySem.SeqAt
open L2 (atI ixN)
end TM
set_option maxRecDepth 100000
namespace TM
open PySem VL VP D PySem.SeqAt
open L2 (atI ixN)
variable {n : Nat} {xs ys zs : List Int} {τ κ υ : Type}
theorem cut_drop (l : List τ) {i : Int} (h : 0 ≤ i) : cutD l (some i) none = l.drop i.toNat := by
  obtain ⟨k, rfl⟩ : ∃ k : Nat, i = (k : Int) := ⟨i.toNat, by omega⟩
  unfold cutD
  have h1 : HT.sIx l.length 0 (some (k : Int)) = min k l.length := HT.sIx_nat l.length 0 k
  have h2 : HT.sIx l.length l.length none = l.length := HT.sIx_none _ _
  rw [h1, h2, Int.toNat_natCast]
  by_cases hk : k ≤ l.length
  · rw [Nat.min_eq_left hk, List.take_of_length_le (by rw [List.length_drop]; omega)]
  · rw [Nat.min_eq_right (by omega), List.drop_eq_nil_of_le (Nat.le_refl _), List.drop_eq_nil_of_le (by omega), List.take_nil]
theorem cut_take (l : List τ) {i : Int} (h : 0 ≤ i) : cutD l none (some i) = l.take i.toNat := by
  obtain ⟨k, rfl⟩ : ∃ k : Nat, i = (k : Int) := ⟨i.toNat, by omega⟩
  unfold cutD
  have h1 : HT.sIx l.length l.length (some (k : Int)) = min k l.length := HT.sIx_nat l.length l.length k
  have h2 : HT.sIx l.length 0 none = 0 := HT.sIx_none _ _
  rw [h1, h2, Int.toNat_natCast, Nat.sub_zero, List.drop_zero]
  by_cases hk : k ≤ l.length
  · rw [Nat.min_eq_left hk]
  · rw [Nat.min_eq_right (by omega), List.take_of_length_le (Nat.le_refl _), List.take_of_length_le (by omega)]
theorem turn_perm (l : List τ) (k : Nat) : (l.drop k ++ l.take k).Perm l := by
  refine List.Perm.trans List.perm_append_comm ?_
  rw [List.take_append_drop]
section
variable [DecidableEq κ]
theorem look_put (l : List (κ × υ)) (k k' : κ) (v : υ) : lookT (putT l k v) k' = if k' = k then some v else lookT l k' := by
  unfold putT
  by_cases h : (l.any fun p => decide (p.1 = k)) = true
  · rw [if_pos h]
    induction l with
    | nil => simp at h
    | cons p l ih =>
      unfold lookT at *
      rw [List.map_cons]
      by_cases e : p.1 = k
      · rw [if_pos e]
        by_cases q : k' = k
        · rw [if_pos q, List.find?_cons_of_pos (by rw [decide_eq_true_eq]; exact e.trans q.symm)]
          rfl
        · rw [if_neg q, List.find?_cons_of_neg (by rw [decide_eq_true_eq]; exact fun z => q (z.symm.trans e)), List.find?_cons_of_neg (by rw [decide_eq_true_eq]; exact fun z => q (z.symm.trans e))]
          by_cases h2 : (l.any fun p => decide (p.1 = k)) = true
          · have := ih h2
            rw [if_neg q] at this
            exact this
          · have : (l.map fun p => if p.1 = k then (p.1, v) else p) = l := by
              refine (List.map_congr_left fun p hp => ?_).trans (List.map_id l)
              rw [if_neg]
              · rfl
              · intro z
                exact h2 (List.any_eq_true.mpr ⟨p, hp, decide_eq_true z⟩)
            rw [this]
      · rw [if_neg e]
        have h2 : (l.any fun p => decide (p.1 = k)) = true := by
          rw [List.any_cons, decide_eq_false e, Bool.false_or] at h
          exact h
        by_cases q : p.1 = k'
        · rw [List.find?_cons_of_pos (by rw [decide_eq_true_eq]; exact q), if_neg (fun z => e (q.trans z)), List.find?_cons_of_pos (by rw [decide_eq_true_eq]; exact q)]
        · rw [List.find?_cons_of_neg (by rw [decide_eq_true_eq]; exact q), List.find?_cons_of_neg (by rw [decide_eq_true_eq]; exact q)]
          exact ih h2
  · rw [if_neg h]
    unfold lookT
    rw [List.find?_append]
    by_cases q : k' = k
    · subst q
      rw [if_pos rfl, List.find?_eq_none.mpr (fun p hp z => h (List.any_eq_true.mpr ⟨p, hp, z⟩)), Option.none_or, List.find?_cons_of_pos (by rw [decide_eq_true_eq])]
      rfl
    · rw [if_neg q, List.find?_cons_of_neg (by rw [decide_eq_true_eq]; exact fun z => q z.symm), List.find?_nil, Option.or_none]
theorem put_len (l : List (κ × υ)) (k : κ) (v : υ) : (putT l k v).length ≤ l.length + 1 := by
  unfold putT
  split
  · rw [List.length_map]; omega
  · rw [List.length_append]; exact Nat.le_refl _
end
/-- the dict of places -/
theorem places_of {mb : List (Int × Int) → Int × Int → R (List (Int × Int))} (hb : ∀ s x, mb s x = ob (putG s x.2 x.1) fun v => .ok v) (h : IsOrd n xs) (h2 : n ≤ 1000) :
    Sat (foldM mb (enumT 0 xs) []) fun d => ∀ t : Nat, t < n → lookT d (t : Int) = some ((pl xs t : Nat) : Int) := by
  have key := sat_foldM (mb := mb) (fun k s => s.length ≤ k ∧ ∀ t : Nat, t < n → lookT s (t : Int) = if pl xs t < k then some ((pl xs t : Nat) : Int) else none) (enumT 0 xs) 0 [] ⟨Nat.le_refl _, fun t _ => rfl⟩ fun i s hi hs => by
    obtain ⟨s1, s2⟩ := hs
    rw [enumT_len] at hi
    have hl := h.length
    have hin : i < n := by omega
    have hx : (enumT 0 xs)[i]'(by rw [enumT_len]; exact hi) = ((i : Int), ((th xs i : Nat) : Int)) := by
      rw [enumT_get]
      have := ord_get h hin
      rw [List.getElem?_eq_getElem hi] at this
      rw [Option.some.inj this]
      simp
    rw [hx, hb]
    unfold putG big
    rw [if_pos (by omega), ob_some]
    refine sat_ok ⟨by have := put_len s ((th xs i : Nat) : Int) (i : Int); dsimp only; omega, fun t ht => ?_⟩
    rw [look_put]
    by_cases e : t = th xs i
    · subst e
      rw [if_pos rfl, pl_th h hin, if_pos (by omega)]
    · rw [if_neg (by omega), s2 t ht]
      have : pl xs t ≠ i := fun z => e (by rw [← z, th_pl h ht])
      by_cases q : pl xs t < i
      · rw [if_pos (by omega), if_pos (by omega)]
      · rw [if_neg (by omega), if_neg (by omega)]
  refine key.mono fun d ⟨_, h3⟩ t ht => ?_
  rw [h3 t ht, enumT_len, if_pos (by rw [h.length]; have := pl_lt h ht; omega)]
end TM
set_option maxRecDepth 100000
set_option maxHeartbeats 0
namespace K66
open PySem PySem.Spec PyProof.Rows L2 VL VP
def top (i : Nat) : Stmt := PySem.Challenge.pw_farorders_k66_pairs_ahead.main.body.getD i (.Pass ⟨0, 0, 0, 0⟩)
abbrev s__law_places : Stmt := top 21
abbrev s__law_ahead : Stmt := top 24
abbrev s__law_cell_at : Stmt := top 14
abbrev s__law_copied : Stmt := top 23
abbrev s__law_stir : Stmt := top 15
abbrev s__law_deck : Stmt := top 16
abbrev s__law_next : Stmt := top 17
abbrev s__law_near : Stmt := top 19
abbrev s__law_order : Stmt := top 18
abbrev s__law_poll : Stmt := top 20
abbrev s__law_whole : Stmt := top 22
abbrev s_ahead_in : Stmt := top 10
abbrev s_is_whole : Stmt := top 5
abbrev s_is_order : Stmt := top 6
abbrev s_need_poll : Stmt := top 9
abbrev s_pairs_ahead : Stmt := top 11
abbrev s_pair_sum : Stmt := top 12
abbrev s_law : Stmt := top 25
/-- what the module holds -/
structure Fc (K : PySem.W.Frag) (mg : Str → Option Value) : Prop where
  x_NoOrder : XC K mg "NoOrder"
  f_bool : mg "bool" = none
  f_dict : mg "dict" = none
  f_enumerate : mg "enumerate" = none
  f_int : mg "int" = none
  f_isinstance : mg "isinstance" = none
  f_len : mg "len" = none
  f_list : mg "list" = none
  f_max : mg "max" = none
  f_min : mg "min" = none
  f_range : mg "range" = none
  f_sorted : mg "sorted" = none
  f_sum : mg "sum" = none
  f_tuple : mg "tuple" = none
  i_MOST_POLL : ∃ t, mg "MOST_POLL" = some (.int 20 t)
  i_MOST_THINGS : ∃ t, mg "MOST_THINGS" = some (.int 12 t)
/-- 0: order, 1: found, 2: place, 3: thing -/
def b__law_places : FS :=
  (sSeq (sOwn 1 fDNew)
  (sSeq (sFor (iEnumr (fVar 0)) (gT2 2 3) (sPutD 1 (fVar 3) (fVar 2)) [2, 3])
  (sRetO (fVar 1))))
def h__law_places : Fn := runF b__law_places 4
/-- 0: poll, 1: some, 2: found, 3: one, 4: other, 5: order, 6: places -/
def b__law_ahead : FS :=
  (sSeq (sAsg 1 (fLc (iSeq (fVar 0)) (gN 5) tTrue (fCall h__law_places 1 [] (aF (fVar 5) aNil)) [5]))
  (sSeq (sOwn 2 fTNew)
  (sSeq (sFor (iRange1 (fCB gLen (aCons (fBin oIx (fVar 0) (fC (.int 0))) aNil))) (gN 3) (sFor (iRange1 (fCB gLen (aCons (fBin oIx (fVar 0) (fC (.int 0))) aNil))) (gN 4) (sTPut 2 (fTup (dCons (fVar 3) (dCons (fVar 4) dNil))) (fCB gLen (aCons (fLc (iSeq (fVar 1)) (gN 6) (fTest (fBin oLt (fBin oDix (fVar 6) (fVar 3)) (fBin oDix (fVar 6) (fVar 4)))) (fC (.int 1)) [6]) aNil))) [4]) [3, 4])
  (sRetO (fVar 2)))))
def h__law_ahead : Fn := runF b__law_ahead 7
/-- 0: script, 1: k -/
def b__law_cell_at : FS :=
  (sSeq (sIf (fTest (fBin oLt (fVar 1) (fScLen (fVar 0)))) (sRetO (fScIx (fVar 0) (fVar 1))) sNil)
  (sRetO (fC (.int 0))))
def h__law_cell_at : Fn := runF b__law_cell_at 2
/-- 0: orders, 1: order -/
def b__law_copied : FS :=
  (sRetO (fLc (iSeq (fVar 0)) (gN 1) tTrue (fCB gList (aCons (fVar 1) aNil)) [1]))
def h__law_copied : Fn := runF b__law_copied 2
/-- 0: cell, 1: k, 2: one -/
def b__law_stir : FS :=
  (sSeq (sAsg 2 (fBin oMod (fBin oMul (fBin oAdd (fBin oAdd (fBin oMod (fVar 0) (fC (.int 2147483629))) (fBin oMul (fC (.int 9973)) (fVar 1))) (fC (.int 5))) (fC (.int 48271))) (fC (.int 2147483647))))
  (sSeq (sAsg 2 (fBin oMod (fBin oMul (fVar 2) (fVar 2)) (fC (.int 2147483587))))
  (sRetO (fBin (opI cFdiv fun i j => i / j) (fBin oMod (fBin oMul (fBin oAdd (fVar 2) (fBin oMul (fC (.int 7919)) (fVar 1))) (fC (.int 16807))) (fC (.int 2147483563))) (fC (.int 8))))))
def h__law_stir : Fn := runF b__law_stir 3
/-- 0: cell, 1: many, 2: found, 3: digits, 4: k, 5: number -/
def b__law_deck : FS :=
  (sSeq (sOwn 2 (fLst dNil))
  (sSeq (sAsg 3 (fVar 0))
  (sSeq (sFor (iRange1 (fVar 1)) (gN 4) (sSeq (sAsg 5 (fCallP h__law_stir 2 (aP (fVar 0) (aP (fVar 4) aNil))))
  (sSeq (sIf (fTest (fBin oGe (fVar 0) (fBin oPow (fC (.int 10)) (fC (.int 18))))) (sAsg 5 (fBin oMod (fVar 3) (fC (.int 720720)))) sNil)
  (sSeq (sAsg 3 (fBin (opI cFdiv fun i j => i / j) (fVar 3) (fC (.int 720720))))
  (sExpr (fMth 2 mAppend (dCons (fVar 5) dNil)))))) [4, 5])
  (sRetO (fUn oRev (fVar 2))))))
def h__law_deck : Fn := runF b__law_deck 6
/-- 0: deck -/
def b__law_next : FS :=
  (sSeq (sIf (fTest (fBin oEq (fCB gLen (aCons (fVar 0) aNil)) (fC (.int 1)))) (sExpr (fMth 0 mInsert (dCons (fC (.int 0)) (dCons (fBin oMul (fCallP h__law_stir 2 (aP (fBin oIx (fVar 0) (fC (.int 0))) (aP (fC (.int 7)) aNil))) (fCB gInt (aCons (fBin oGt (fBin oIx (fVar 0) (fC (.int 0))) (fC (.int 0))) aNil))) dNil)))) sNil)
  (sRetO (fMth 0 mPop dNil)))
def h__law_next : Fn := runF b__law_next 1
/-- 0: deck, 1: order, 2: found, 3: way, 4: turn, 5: p, 6: q -/
def b__law_near : FS :=
  (sSeq (sOwn 2 (fCB gList (aCons (fVar 1) aNil)))
  (sSeq (sAsg 3 (fBin oMod (fCall h__law_next 1 [(0, 0)] (aM 0 aNil)) (fC (.int 3))))
  (sSeq (sFor (iRange1 (fBin oMul (fBin oIx (fLst (dCons (fC (.int 1)) (dCons (fC (.int 1)) (dCons (fC (.int 2)) (dCons (fC (.int 4)) dNil))))) (fBin oMod (fCall h__law_next 1 [(0, 0)] (aM 0 aNil)) (fC (.int 4)))) (fCB gInt (aCons (fBin oGt (fCB gLen (aCons (fVar 2) aNil)) (fC (.int 1))) aNil)))) (gN 4) (sSeq (sAsg 5 (fBin oMod (fCall h__law_next 1 [(0, 0)] (aM 0 aNil)) (fBin oSub (fCB gLen (aCons (fVar 2) aNil)) (fC (.int 1)))))
  (sSeq (sAsg 6 (fBin oIx (fLst (dCons (fBin oAdd (fVar 5) (fC (.int 1))) (dCons (fBin oMod (fCall h__law_next 1 [(0, 0)] (aM 0 aNil)) (fCB gLen (aCons (fVar 2) aNil))) (dCons (fBin oAdd (fVar 5) (fC (.int 1))) dNil)))) (fVar 3)))
  (sIf (fTest (fBin oLt (fVar 3) (fC (.int 2)))) (sPut2 2 (fVar 5) 2 (fVar 6) (dCons (fBin oIx (fVar 2) (fVar 6)) (dCons (fBin oIx (fVar 2) (fVar 5)) dNil))) (sExpr (fMth 2 mInsert (dCons (fBin oMod (fCall h__law_next 1 [(0, 0)] (aM 0 aNil)) (fCB gLen (aCons (fVar 2) aNil))) (dCons (fMth 2 mPop (dCons (fVar 5) dNil)) dNil))))))) [4, 5, 6])
  (sRetO (fVar 2)))))
def h__law_near : Fn := runF b__law_near 7
/-- 0: deck, 1: n, 2: left, 3: thing -/
def b__law_order : FS :=
  (sSeq (sOwn 2 (fListRg1 (fVar 1)))
  (sRetO (fLc (iRange1 (fVar 1)) (gN 3) tTrue (fMth 2 mPop (dCons (fBin oMod (fCall h__law_next 1 [(0, 0)] (aM 0 aNil)) (fCB gLen (aCons (fVar 2) aNil))) dNil)) [3])))
def h__law_order : Fn := runF b__law_order 4
/-- 0: deck, 1: n, 2: most, 3: first, 4: found, 5: kind, 6: turn, 7: at, 8: some -/
def b__law_poll : FS :=
  (sSeq (sAsg 3 (fCall h__law_order 2 [(0, 0)] (aM 0 (aF (fVar 1) aNil))))
  (sSeq (sOwn 4 (fLst (dCons (fVar 3) dNil)))
  (sSeq (sAsg 5 (fBin oMod (fCall h__law_next 1 [(0, 0)] (aM 0 aNil)) (fC (.int 4))))
  (sSeq (sFor (iRange1 (fBin oIx (fLst (dCons (fBin oMod (fCall h__law_next 1 [(0, 0)] (aM 0 aNil)) (fVar 2)) (dCons (fBin oSub (fVar 2) (fC (.int 1))) (dCons (fBin oMod (fCall h__law_next 1 [(0, 0)] (aM 0 aNil)) (fCB gMin (aCons (fVar 2) (aCons (fC (.int 4)) aNil)))) dNil)))) (fBin oMod (fCall h__law_next 1 [(0, 0)] (aM 0 aNil)) (fC (.int 3))))) (gN 6) (sSeq (sAsg 7 (fBin oMod (fCall h__law_next 1 [(0, 0)] (aM 0 aNil)) (fVar 1)))
  (sSeq (sOwn 8 (fLst (dCons (fCall h__law_near 2 [(0, 0)] (aM 0 (aF (fVar 3) aNil))) (dCons (fCall h__law_order 2 [(0, 0)] (aM 0 (aF (fVar 1) aNil))) (dCons (fBin oAdd (fSl (fVar 3) (oSome (fVar 7)) oNo) (fSl (fVar 3) oNo (oSome (fVar 7)))) (dCons (fUn oRev (fVar 3)) dNil))))))
  (sSeq (sExpr (fMth 8 mAppend (dCons (fCB gList (aCons (fBin oIx (fVar 4) (fBin oMod (fCall h__law_next 1 [(0, 0)] (aM 0 aNil)) (fCB gLen (aCons (fVar 4) aNil)))) aNil)) dNil)))
  (sExpr (fMth 4 mAppend (dCons (fBin oIx (fVar 8) (fBin oIx (fLst (dCons (fC (.int 0)) (dCons (fC (.int 1)) (dCons (fC (.int 2)) (dCons (fBin oMod (fCall h__law_next 1 [(0, 0)] (aM 0 aNil)) (fC (.int 5))) dNil))))) (fVar 5))) dNil)))))) [6, 7, 8])
  (sRetO (fVar 4))))))
def h__law_poll : Fn := runF b__law_poll 9
/-- 0: thing -/
def b__law_whole : FS :=
  (sRetO (fAndV (fIsi .int (fVar 0)) (fNotV (fIsi .bool (fVar 0)))))
def h__law_whole : Fn := runF b__law_whole 1
/-- 0: poll, 1: many, 2: found, 3: order, 4: place, 5: thing, 6: other -/
def b_ahead_in : FS :=
  (sSeq (sAsg 1 (fCB gLen (aCons (fBin oIx (fVar 0) (fC (.int 0))) aNil)))
  (sSeq (sOwnT 2 (fLcT (iRange1 (fVar 1)) (gN 5) tTrue (fBin oMul (fLst (dCons (fC (.int 0)) dNil)) (fVar 1)) [5]))
  (sSeq (sFor (iSeq (fVar 0)) (gN 3) (sFor (iEnumr (fVar 3)) (gT2 4 5) (sFor (iSeq (fSl (fVar 3) (oSome (fBin oAdd (fVar 4) (fC (.int 1)))) oNo)) (gN 6) (sAugP 2 (pmIx pmN (fVar 5)) (opI0 fun i j => i + j) (fVar 6) (fC (.int 1))) [6]) [4, 5, 6]) [3, 4, 5, 6])
  (sRetO (fVar 2)))))
def h_ahead_in : Fn := runF b_ahead_in 7
/-- 0: poll, 1: order -/
def b_need_poll : FS :=
  (sSeq (sIf (tOr (tNot (fTest (fIsi .list (fVar 0)))) (tNot (fTest (fChain oLe oLe (fC (.int 1)) (fCB gLen (aCons (fVar 0) aNil)) (fC (.int 20)))))) (sRaise "NoOrder") sNil)
  (sSeq (sIf (fTest (fBin oNe (fLc (iSeq (fVar 0)) (gN 1) (tNot (fTest (fCallP h_is_order 1 (aP (fVar 1) aNil)))) (fVar 1) [1]) (fLst dNil))) (sRaise "NoOrder") sNil)
  (sIf (fTest (fBin oNe (fLc (iSeq (fVar 0)) (gN 1) (fTest (fBin oNe (fCB gLen (aCons (fVar 1) aNil)) (fCB gLen (aCons (fBin oIx (fVar 0) (fC (.int 0))) aNil)))) (fVar 1) [1]) (fLst dNil))) (sRaise "NoOrder") sNil)))
def h_need_poll : Fn := runF b_need_poll 2
/-- 0: poll, 1: ahead, 2: found, 3: one, 4: other -/
def b_pairs_ahead : FS :=
  (sSeq (sExpr (fCallP h_need_poll 1 (aP (fVar 0) aNil)))
  (sSeq (sAsg 1 (fIce (fCall h_ahead_in 1 [] (aF (fVar 0) aNil))))
  (sSeq (sOwn 2 fTNew)
  (sSeq (sFor (iRange1 (fCB gLen (aCons (fVar 1) aNil))) (gN 3) (sFor (iRange2 (fBin oAdd (fVar 3) (fC (.int 1))) (fCB gLen (aCons (fVar 1) aNil))) (gN 4) (sTPut 2 (fTup (dCons (fVar 3) (dCons (fVar 4) dNil))) (fBin oIx (fBin oIx (fVar 1) (fVar 3)) (fVar 4))) [4]) [3, 4])
  (sRetO (fVar 2))))))
def h_pairs_ahead : Fn := runF b_pairs_ahead 5
/-- 0: poll, 1: found, 2: many -/
def b_pair_sum : FS :=
  (sSeq (sOwn 1 (fCall h_pairs_ahead 1 [] (aF (fVar 0) aNil)))
  (sRetO (fCB gSum (aCons (fFrzT 1 (fLc (iValsT 1) (gN 2) tTrue (fCB gMin (aCons (fVar 2) (aCons (fBin oSub (fCB gLen (aCons (fVar 0) aNil)) (fVar 2)) aNil))) [2])) aNil))))
def h_pair_sum : Fn := runF b_pair_sum 3
/-- 0: script, 1: k, 2: deck, 3: n, 4: poll, 5: ahead, 6: due, 7: total, 8: handed, 9: again, 10: found, 11: one, 12: other, 13: number, 14: pair, 15: many -/
def b_law : FS :=
  (sSeq (sFor (iRange1 (fCB gMax (aCons (fC (.int 1)) (aCons (fCB gMin (aCons (fScLen (fVar 0)) (aCons (fC (.int 5)) aNil))) aNil)))) (gN 1) (sSeq (sOwn 2 (fCall h__law_deck 2 [] (aF (fCall h__law_cell_at 2 [] (aF (fVar 0) (aF (fVar 1) aNil))) (aF (fC (.int 760)) aNil))))
  (sSeq (sAsg 3 (fBin oIx (fLst (dCons (fBin oAdd (fC (.int 1)) (fBin oMod (fCall h__law_next 1 [(0, 2)] (aM 2 aNil)) (fC (.int 12)))) (dCons (fBin oAdd (fC (.int 1)) (fBin oMod (fCall h__law_next 1 [(0, 2)] (aM 2 aNil)) (fC (.int 4)))) (dCons (fC (.int 12)) dNil)))) (fBin oMod (fCall h__law_next 1 [(0, 2)] (aM 2 aNil)) (fC (.int 3)))))
  (sSeq (sAsg 4 (fCall h__law_poll 3 [(0, 2)] (aM 2 (aF (fVar 3) (aF (fC (.int 20)) aNil)))))
  (sSeq (sOwn 5 (fCall h__law_ahead 1 [] (aF (fVar 4) aNil)))
  (sSeq (sOwn 6 (fCB gDictT (aCons (fFrzT 5 (fLc (iKeysT 5) (gN 14) (fTest (fBin oLt (fBin oIx (fVar 14) (fC (.int 0))) (fBin oIx (fVar 14) (fC (.int 1))))) (fTup (dCons (fVar 14) (dCons (fFGet 5 (fVar 14)) dNil))) [14])) aNil)))
  (sSeq (sAsg 7 (fCB gSum (aCons (fFrzT 6 (fLc (iValsT 6) (gN 15) tTrue (fCB gMin (aCons (fVar 15) (aCons (fBin oSub (fCB gLen (aCons (fVar 4) aNil)) (fVar 15)) aNil))) [15])) aNil)))
  (sSeq (sAsg 8 (fCall h__law_copied 1 [] (aF (fVar 4) aNil)))
  (sFor (iRange1 (fC (.int 2))) (gN 9) (sSeq (sOwn 10 (fCall h_pairs_ahead 1 [] (aF (fVar 8) aNil)))
  (sSeq (sIf (tOr (tNot (fTest (fIsDT 10))) (tOr (fTest (fNeD 10 6)) (fTest (fBin oNe (fVar 8) (fVar 4))))) (sRetO (fC (.bool false))) sNil)
  (sSeq (sLockT 10 [0, 1, 2, 3, 4, 5, 6, 7, 8, 9, 10, 11, 12, 13, 14] (sIf (fTest (fBin oNe (fLc (iValsT 10) (gN 15) (tNot (fTest (fCallP h__law_whole 1 (aP (fVar 15) aNil)))) (fVar 15) [15]) (fLst dNil))) (sRetO (fC (.bool false))) sNil))
  (sSeq (sLockT 10 [0, 1, 2, 3, 4, 5, 6, 7, 8, 9, 10, 13, 14, 15] (sFor (iKeysT 10) (gT2 11 12) (sIf (tOr (tNot (fTest (fCallP h__law_whole 1 (aP (fVar 11) aNil)))) (tNot (fTest (fCallP h__law_whole 1 (aP (fVar 12) aNil))))) (sRetO (fC (.bool false))) sNil) [11, 12]))
  (sSeq (sLockT 10 [0, 1, 2, 3, 4, 5, 6, 7, 8, 9, 10, 11, 12, 13, 15] (sIf (fTest (fBin oNe (fLc (iKeysT 10) (gN 14) (tNot (fTest (fIsi .tuple (fVar 14)))) (fVar 14) [14]) (fLst dNil))) (sRetO (fC (.bool false))) sNil))
  (sSeq (sExpr (fClrD 10))
  (sSeq (sAsg 13 (fCallP h_pair_sum 1 (aP (fVar 8) aNil)))
  (sIf (tOr (tNot (fTest (fCallP h__law_whole 1 (aP (fVar 13) aNil)))) (tOr (fTest (fBin oNe (fVar 13) (fVar 7))) (fTest (fBin oNe (fVar 8) (fVar 4))))) (sRetO (fC (.bool false))) sNil)))))))) [9, 10, 11, 12, 13])))))))) [1, 2, 3, 4, 5, 6, 7, 8, 9, 10, 11, 12, 13])
  (sRetO (fC (.bool true))))
def h_law : Fn := runF b_law 16
end K66
set_option maxRecDepth 100000
set_option maxHeartbeats 0
namespace K66
open PySem PySem.Spec PyProof.Rows L2 VL VP
section
variable {P : Program} {w : World} {K : PySem.W.Frag} {mg : Str → Option Value} {base : Heap}
theorem ok__law_places {a : Addr} {fd : FuncData} (F : FunD K "_law_places" "_law_places" (defArgs s__law_places) (defBody s__law_places) (defScope s__law_places) [] [] a fd) (gm : mg "_law_places" = some (.ref a)) (z : Fc K mg)  : CalK P w K mg base rhoU "_law_places" 1 [] h__law_places 2 :=
  cal_mk (N := ["order", "found", "place", "thing"]) (ps := ["order"]) (k := 1) (g := b__law_places) [] F gm ⟨rfl, rfl, rfl, by decide +kernel, rfl, by decide +kernel, by decide +kernel⟩ (by decide) (fun _ _ _ _ _ _ us hl => match us, hl with | [_], _ => rfl) (fun cdv A outer s H E hr V0 => by
    exact
  (vss_cons (vs_own V0.nd 1 ve_dnew)
  (vss_cons (vs_for V0 [2, 3] (vi_enum z.f_enumerate (ve_var 0)) (vg_t2 V0.nd V0.calm 2 3) (vss_one (vs_putD (by have := V0.room.un; omega) 1 (ve_var 3) (ve_var 2))))
  (vss_one (vs_retO (ve_var 1)))))) (by decide)
theorem ok__law_ahead {a : Addr} {fd : FuncData} (F : FunD K "_law_ahead" "_law_ahead" (defArgs s__law_ahead) (defBody s__law_ahead) (defScope s__law_ahead) [] [] a fd) (gm : mg "_law_ahead" = some (.ref a)) (z : Fc K mg) (c__law_places : CalK P w K mg base rhoU "_law_places" 1 [] h__law_places 2) : CalK P w K mg base rhoU "_law_ahead" 1 [] h__law_ahead 3 :=
  cal_mk (N := ["poll", "some", "found", "one", "other", "order", "places"]) (ps := ["poll"]) (k := 2) (g := b__law_ahead) [] F gm ⟨rfl, rfl, rfl, by decide +kernel, rfl, by decide +kernel, by decide +kernel⟩ (by decide) (fun _ _ _ _ _ _ us hl => match us, hl with | [_], _ => rfl) (fun cdv A outer s H E hr V0 => by
    exact
  (vss_cons (vs_asgLc V0 1 [("order", 5)] (t := (gName 5)) (vi_seq (ve_var 0)) (by kernel_rfl) (fun _ _ _ _ _ => pg_name V0.nd rfl (Or.inl rfl)) (sg_name (by decide)) (wg_name (by decide)) (fun s H C cl fp V0 => vc_no) (fun s H C cl fp V0 => (ve_call (mi := []) V0 c__law_places.c (hr.mono (by decide)) (va_F (ve_var 5) va_nil))) (sw_true rfl rfl rfl (by decide +kernel))).1
  (vss_cons (vs_own V0.nd 2 (ve_tnew rfl))
  (vss_cons (vs_for V0 [3, 4] (vi_range1 z.f_range (ve_cb (v_len) z.f_len b_len (va_cons (ve_ix (ve_var 0) ve_int) va_nil))) (vg_name V0.nd 3) (vss_one (vs_for V0 [4] (vi_range1 z.f_range (ve_cb (v_len) z.f_len b_len (va_cons (ve_ix (ve_var 0) ve_int) va_nil))) (vg_name V0.nd 4) (vss_one (vs_tput rfl (by have := V0.room.un; omega) 2 (ve_tup (vd_cons (ve_var 3) (vd_cons (ve_var 4) vd_nil))) (ve_cb (v_len) z.f_len b_len (va_cons (ve_lc V0 [("places", 6)] (t := (gName 6)) (vi_seq (ve_var 1)) (by kernel_rfl) (fun _ _ _ _ _ => pg_name V0.nd rfl (Or.inl rfl)) (sg_name (by decide)) (wg_name (by decide)) (fun s H C cl fp V0 => (vc_if (vt_cmp v_lt (ve_dix (by have := V0.room.un; omega) (ve_var 6) (ve_var 3)) (ve_dix (by have := V0.room.un; omega) (ve_var 6) (ve_var 4))))) (fun s H C cl fp V0 => ve_int)) va_nil)))))))
  (vss_one (vs_retO (ve_var 2))))))) (by decide)
theorem ok__law_cell_at {a : Addr} {fd : FuncData} (F : FunD K "_law_cell_at" "_law_cell_at" (defArgs s__law_cell_at) (defBody s__law_cell_at) (defScope s__law_cell_at) [] [] a fd) (gm : mg "_law_cell_at" = some (.ref a)) (z : Fc K mg)  : CalK P w K mg base rhoU "_law_cell_at" 2 [] h__law_cell_at 2 :=
  cal_mk (N := ["script", "k"]) (ps := ["script", "k"]) (k := 1) (g := b__law_cell_at) [] F gm ⟨rfl, rfl, rfl, by decide +kernel, rfl, by decide +kernel, by decide +kernel⟩ (by decide) (fun _ _ _ _ _ _ us hl => match us, hl with | [_, _], _ => rfl) (fun cdv A outer s H E hr V0 => by
    exact
  (vss_cons (vs_if (vt_cmp v_lt (ve_var 1) (ve_scLen (ve_var 0) z.f_len b_len)) (vss_one (vs_retO (ve_scIx (ve_var 0) (ve_var 1)))) vss_nil)
  (vss_one (vs_retO ve_int)))) (by decide)
theorem ok__law_copied {a : Addr} {fd : FuncData} (F : FunD K "_law_copied" "_law_copied" (defArgs s__law_copied) (defBody s__law_copied) (defScope s__law_copied) [] [] a fd) (gm : mg "_law_copied" = some (.ref a)) (z : Fc K mg)  : CalK P w K mg base rhoU "_law_copied" 1 [] h__law_copied 2 :=
  cal_mk (N := ["orders", "order"]) (ps := ["orders"]) (k := 1) (g := b__law_copied) [] F gm ⟨rfl, rfl, rfl, by decide +kernel, rfl, by decide +kernel, by decide +kernel⟩ (by decide) (fun _ _ _ _ _ _ us hl => match us, hl with | [_], _ => rfl) (fun cdv A outer s H E hr V0 => by
    exact
  (vss_one (vs_retO (ve_lc V0 [("order", 1)] (t := (gName 1)) (vi_seq (ve_var 0)) (by kernel_rfl) (fun _ _ _ _ _ => pg_name V0.nd rfl (Or.inl rfl)) (sg_name (by decide)) (wg_name (by decide)) (fun s H C cl fp V0 => vc_no) (fun s H C cl fp V0 => (ve_ct v_list z.f_list b_list (va_cons (ve_var 1) va_nil))))))) (by decide)
theorem ok__law_stir {a : Addr} {fd : FuncData} (F : FunD K "_law_stir" "_law_stir" (defArgs s__law_stir) (defBody s__law_stir) (defScope s__law_stir) [] [] a fd) (gm : mg "_law_stir" = some (.ref a)) (z : Fc K mg)  : CalK P w K mg base rhoU "_law_stir" 2 [] h__law_stir 2 :=
  cal_mk (N := ["cell", "k", "one"]) (ps := ["cell", "k"]) (k := 1) (g := b__law_stir) [] F gm ⟨rfl, rfl, rfl, by decide +kernel, rfl, by decide +kernel, by decide +kernel⟩ (by decide) (fun _ _ _ _ _ _ us hl => match us, hl with | [_, _], _ => rfl) (fun cdv A outer s H E hr V0 => by
    exact
  (vss_cons (vs_asg V0.nd 2 (ve_op v_mod (ve_op v_mul (ve_op v_add (ve_op v_add (ve_op v_mod (ve_var 0) ve_int) (ve_op v_mul ve_int (ve_var 1))) ve_int) ve_int) ve_int))
  (vss_cons (vs_asg V0.nd 2 (ve_op v_mod (ve_op v_mul (ve_var 2) (ve_var 2)) ve_int))
  (vss_one (vs_retO (ve_op v_fdiv (ve_op v_mod (ve_op v_mul (ve_op v_add (ve_var 2) (ve_op v_mul ve_int (ve_var 1))) ve_int) ve_int) ve_int)))))) (by decide)
theorem ok__law_deck {a : Addr} {fd : FuncData} (F : FunD K "_law_deck" "_law_deck" (defArgs s__law_deck) (defBody s__law_deck) (defScope s__law_deck) [] [] a fd) (gm : mg "_law_deck" = some (.ref a)) (z : Fc K mg) (c__law_stir : CalK P w K mg base rhoU "_law_stir" 2 [] h__law_stir 2) : CalK P w K mg base rhoU "_law_deck" 2 [] h__law_deck 3 :=
  cal_mk (N := ["cell", "many", "found", "digits", "k", "number"]) (ps := ["cell", "many"]) (k := 2) (g := b__law_deck) [] F gm ⟨rfl, rfl, rfl, by decide +kernel, rfl, by decide +kernel, by decide +kernel⟩ (by decide) (fun _ _ _ _ _ _ us hl => match us, hl with | [_, _], _ => rfl) (fun cdv A outer s H E hr V0 => by
    exact
  (vss_cons (vs_own V0.nd 2 (ve_lst vd_nil))
  (vss_cons (vs_asg V0.nd 3 (ve_var 0))
  (vss_cons (vs_for V0 [4, 5] (vi_range1 z.f_range (ve_var 1)) (vg_name V0.nd 4) (vss_cons (vs_asg V0.nd 5 (ve_callP V0 c__law_stir.c (hr.mono (by decide)) (va_P (ve_var 0) (va_P (ve_var 4) va_nil))))
  (vss_cons (vs_if (vt_cmp v_ge (ve_var 0) (ve_op v_pow ve_int ve_int)) (vss_one (vs_asg V0.nd 5 (ve_op v_mod (ve_var 3) ve_int))) vss_nil)
  (vss_cons (vs_asg V0.nd 3 (ve_op v_fdiv (ve_var 3) ve_int))
  (vss_one (vs_expr (ve_mth v_append 2 PySem.F.slot_list_append PySem.F.type_list_append (vd_cons (ve_var 5) vd_nil))))))))
  (vss_one (vs_retO (ve_rev (ve_var 2)))))))) (by decide)
theorem ok__law_next {a : Addr} {fd : FuncData} (F : FunD K "_law_next" "_law_next" (defArgs s__law_next) (defBody s__law_next) (defScope s__law_next) [] [] a fd) (gm : mg "_law_next" = some (.ref a)) (z : Fc K mg) (c__law_stir : CalK P w K mg base rhoU "_law_stir" 2 [] h__law_stir 2) : CalK P w K mg base rhoU "_law_next" 1 [0] h__law_next 3 :=
  cal_mk (N := ["deck"]) (ps := ["deck"]) (k := 2) (g := b__law_next) [0] F gm ⟨rfl, rfl, rfl, by decide +kernel, rfl, by decide +kernel, by decide +kernel⟩ (by decide) (fun _ _ _ _ _ _ us hl => match us, hl with | [_], _ => rfl) (fun cdv A outer s H E hr V0 => by
    exact
  (vss_cons (vs_if (vt_cmp (v_eq (by have := V0.room.un; omega)) (ve_cb (v_len) z.f_len b_len (va_cons (ve_var 0) va_nil)) ve_int) (vss_one (vs_expr (ve_mth v_insert 0 PySem.F.slot_list_insert PySem.F.type_list_insert (vd_cons ve_int (vd_cons (ve_op v_mul (ve_callP V0 c__law_stir.c (hr.mono (by decide)) (va_P (ve_ix (ve_var 0) ve_int) (va_P ve_int va_nil))) (ve_ct v_int z.f_int b_int (va_cons (ve_cmp v_gt (ve_ix (ve_var 0) ve_int) ve_int) va_nil))) vd_nil))))) vss_nil)
  (vss_one (vs_retO (ve_mth0 v_pop 0 PySem.F.slot_list_pop PySem.F.type_list_pop))))) (by decide)
theorem ok__law_near {a : Addr} {fd : FuncData} (F : FunD K "_law_near" "_law_near" (defArgs s__law_near) (defBody s__law_near) (defScope s__law_near) [] [] a fd) (gm : mg "_law_near" = some (.ref a)) (z : Fc K mg) (c__law_next : CalK P w K mg base rhoU "_law_next" 1 [0] h__law_next 3) : CalK P w K mg base rhoU "_law_near" 2 [0] h__law_near 4 :=
  cal_mk (N := ["deck", "order", "found", "way", "turn", "p", "q"]) (ps := ["deck", "order"]) (k := 3) (g := b__law_near) [0] F gm ⟨rfl, rfl, rfl, by decide +kernel, rfl, by decide +kernel, by decide +kernel⟩ (by decide) (fun _ _ _ _ _ _ us hl => match us, hl with | [_, _], _ => rfl) (fun cdv A outer s H E hr V0 => by
    exact
  (vss_cons (vs_own V0.nd 2 (ve_ct v_list z.f_list b_list (va_cons (ve_var 1) va_nil)))
  (vss_cons (vs_asg V0.nd 3 (ve_op v_mod (ve_call (mi := [(0, 0)]) V0 c__law_next.c (hr.mono (by decide)) (va_M 0 va_nil)) ve_int))
  (vss_cons (vs_for V0 [4, 5, 6] (vi_range1 z.f_range (ve_op v_mul (ve_ix (ve_lst (vd_cons ve_int (vd_cons ve_int (vd_cons ve_int (vd_cons ve_int vd_nil))))) (ve_op v_mod (ve_call (mi := [(0, 0)]) V0 c__law_next.c (hr.mono (by decide)) (va_M 0 va_nil)) ve_int)) (ve_ct v_int z.f_int b_int (va_cons (ve_cmp v_gt (ve_cb (v_len) z.f_len b_len (va_cons (ve_var 2) va_nil)) ve_int) va_nil)))) (vg_name V0.nd 4) (vss_cons (vs_asg V0.nd 5 (ve_op v_mod (ve_call (mi := [(0, 0)]) V0 c__law_next.c (hr.mono (by decide)) (va_M 0 va_nil)) (ve_op v_sub (ve_cb (v_len) z.f_len b_len (va_cons (ve_var 2) va_nil)) ve_int)))
  (vss_cons (vs_asg V0.nd 6 (ve_ix (ve_lst (vd_cons (ve_op v_add (ve_var 5) ve_int) (vd_cons (ve_op v_mod (ve_call (mi := [(0, 0)]) V0 c__law_next.c (hr.mono (by decide)) (va_M 0 va_nil)) (ve_cb (v_len) z.f_len b_len (va_cons (ve_var 2) va_nil))) (vd_cons (ve_op v_add (ve_var 5) ve_int) vd_nil)))) (ve_var 3)))
  (vss_one (vs_if (vt_cmp v_lt (ve_var 3) ve_int) (vss_one (vs_put2 V0 2 2 (ve_var 5) (ve_var 6) (vd_cons (ve_ix (ve_var 2) (ve_var 6)) (vd_cons (ve_ix (ve_var 2) (ve_var 5)) vd_nil)))) (vss_one (vs_expr (ve_mth v_insert 2 PySem.F.slot_list_insert PySem.F.type_list_insert (vd_cons (ve_op v_mod (ve_call (mi := [(0, 0)]) V0 c__law_next.c (hr.mono (by decide)) (va_M 0 va_nil)) (ve_cb (v_len) z.f_len b_len (va_cons (ve_var 2) va_nil))) (vd_cons (ve_mth v_pop 2 PySem.F.slot_list_pop PySem.F.type_list_pop (vd_cons (ve_var 5) vd_nil)) vd_nil))))))))))
  (vss_one (vs_retO (ve_var 2))))))) (by decide)
theorem ok__law_order {a : Addr} {fd : FuncData} (F : FunD K "_law_order" "_law_order" (defArgs s__law_order) (defBody s__law_order) (defScope s__law_order) [] [] a fd) (gm : mg "_law_order" = some (.ref a)) (z : Fc K mg) (c__law_next : CalK P w K mg base rhoU "_law_next" 1 [0] h__law_next 3) : CalK P w K mg base rhoU "_law_order" 2 [0] h__law_order 4 :=
  cal_mk (N := ["deck", "n", "left", "thing"]) (ps := ["deck", "n"]) (k := 3) (g := b__law_order) [0] F gm ⟨rfl, rfl, rfl, by decide +kernel, rfl, by decide +kernel, by decide +kernel⟩ (by decide) (fun _ _ _ _ _ _ us hl => match us, hl with | [_, _], _ => rfl) (fun cdv A outer s H E hr V0 => by
    exact
  (vss_cons (vs_own V0.nd 2 (ve_listRg1 V0.calm z.f_list z.f_range (ve_var 1)))
  (vss_one (vs_retO (ve_lc V0 [("thing", 3)] (t := (gName 3)) (vi_range1 z.f_range (ve_var 1)) (by kernel_rfl) (fun _ _ _ _ _ => pg_name V0.nd rfl (Or.inl rfl)) (sg_name (by decide)) (wg_name (by decide)) (fun s H C cl fp V0 => vc_no) (fun s H C cl fp V0 => (ve_mth v_pop 2 PySem.F.slot_list_pop PySem.F.type_list_pop (vd_cons (ve_op v_mod (ve_call (mi := [(0, 0)]) V0 c__law_next.c (hr.mono (by decide)) (va_M 0 va_nil)) (ve_cb (v_len) z.f_len b_len (va_cons (ve_var 2) va_nil))) vd_nil)))))))) (by decide)
theorem ok__law_poll {a : Addr} {fd : FuncData} (F : FunD K "_law_poll" "_law_poll" (defArgs s__law_poll) (defBody s__law_poll) (defScope s__law_poll) [] [] a fd) (gm : mg "_law_poll" = some (.ref a)) (z : Fc K mg) (c__law_near : CalK P w K mg base rhoU "_law_near" 2 [0] h__law_near 4) (c__law_next : CalK P w K mg base rhoU "_law_next" 1 [0] h__law_next 3) (c__law_order : CalK P w K mg base rhoU "_law_order" 2 [0] h__law_order 4) : CalK P w K mg base rhoU "_law_poll" 3 [0] h__law_poll 5 :=
  cal_mk (N := ["deck", "n", "most", "first", "found", "kind", "turn", "at", "some"]) (ps := ["deck", "n", "most"]) (k := 4) (g := b__law_poll) [0] F gm ⟨rfl, rfl, rfl, by decide +kernel, rfl, by decide +kernel, by decide +kernel⟩ (by decide) (fun _ _ _ _ _ _ us hl => match us, hl with | [_, _, _], _ => rfl) (fun cdv A outer s H E hr V0 => by
    exact
  (vss_cons (vs_asg V0.nd 3 (ve_call (mi := [(0, 0)]) V0 c__law_order.c (hr.mono (by decide)) (va_M 0 (va_F (ve_var 1) va_nil))))
  (vss_cons (vs_own V0.nd 4 (ve_lst (vd_cons (ve_var 3) vd_nil)))
  (vss_cons (vs_asg V0.nd 5 (ve_op v_mod (ve_call (mi := [(0, 0)]) V0 c__law_next.c (hr.mono (by decide)) (va_M 0 va_nil)) ve_int))
  (vss_cons (vs_for V0 [6, 7, 8] (vi_range1 z.f_range (ve_ix (ve_lst (vd_cons (ve_op v_mod (ve_call (mi := [(0, 0)]) V0 c__law_next.c (hr.mono (by decide)) (va_M 0 va_nil)) (ve_var 2)) (vd_cons (ve_op v_sub (ve_var 2) ve_int) (vd_cons (ve_op v_mod (ve_call (mi := [(0, 0)]) V0 c__law_next.c (hr.mono (by decide)) (va_M 0 va_nil)) (ve_cb (v_min V0.calm) z.f_min b_min (va_cons (ve_var 2) (va_cons ve_int va_nil)))) vd_nil)))) (ve_op v_mod (ve_call (mi := [(0, 0)]) V0 c__law_next.c (hr.mono (by decide)) (va_M 0 va_nil)) ve_int))) (vg_name V0.nd 6) (vss_cons (vs_asg V0.nd 7 (ve_op v_mod (ve_call (mi := [(0, 0)]) V0 c__law_next.c (hr.mono (by decide)) (va_M 0 va_nil)) (ve_var 1)))
  (vss_cons (vs_own V0.nd 8 (ve_lst (vd_cons (ve_call (mi := [(0, 0)]) V0 c__law_near.c (hr.mono (by decide)) (va_M 0 (va_F (ve_var 3) va_nil))) (vd_cons (ve_call (mi := [(0, 0)]) V0 c__law_order.c (hr.mono (by decide)) (va_M 0 (va_F (ve_var 1) va_nil))) (vd_cons (ve_op v_add (ve_sl (ve_var 3) (vo_some (ve_var 7)) vo_no) (ve_sl (ve_var 3) vo_no (vo_some (ve_var 7)))) (vd_cons (ve_rev (ve_var 3)) vd_nil))))))
  (vss_cons (vs_expr (ve_mth v_append 8 PySem.F.slot_list_append PySem.F.type_list_append (vd_cons (ve_ct v_list z.f_list b_list (va_cons (ve_ix (ve_var 4) (ve_op v_mod (ve_call (mi := [(0, 0)]) V0 c__law_next.c (hr.mono (by decide)) (va_M 0 va_nil)) (ve_cb (v_len) z.f_len b_len (va_cons (ve_var 4) va_nil)))) va_nil)) vd_nil)))
  (vss_one (vs_expr (ve_mth v_append 4 PySem.F.slot_list_append PySem.F.type_list_append (vd_cons (ve_ix (ve_var 8) (ve_ix (ve_lst (vd_cons ve_int (vd_cons ve_int (vd_cons ve_int (vd_cons (ve_op v_mod (ve_call (mi := [(0, 0)]) V0 c__law_next.c (hr.mono (by decide)) (va_M 0 va_nil)) ve_int) vd_nil))))) (ve_var 5))) vd_nil))))))))
  (vss_one (vs_retO (ve_var 4)))))))) (by decide)
theorem ok__law_whole {a : Addr} {fd : FuncData} (F : FunD K "_law_whole" "_law_whole" (defArgs s__law_whole) (defBody s__law_whole) (defScope s__law_whole) [] [] a fd) (gm : mg "_law_whole" = some (.ref a)) (z : Fc K mg)  : CalK P w K mg base rhoU "_law_whole" 1 [] h__law_whole 2 :=
  cal_mk (N := ["thing"]) (ps := ["thing"]) (k := 1) (g := b__law_whole) [] F gm ⟨rfl, rfl, rfl, by decide +kernel, rfl, by decide +kernel, by decide +kernel⟩ (by decide) (fun _ _ _ _ _ _ us hl => match us, hl with | [_], _ => rfl) (fun cdv A outer s H E hr V0 => by
    exact
  (vss_one (vs_retO (ve_and (ve_isi .int (ve_var 0) z.f_isinstance z.f_int b_int) (ve_one (ve_not (ve_isi .bool (ve_var 0) z.f_isinstance z.f_bool b_bool))))))) (by decide)
theorem ok_ahead_in {a : Addr} {fd : FuncData} (F : FunD K "ahead_in" "ahead_in" (defArgs s_ahead_in) (defBody s_ahead_in) (defScope s_ahead_in) [] [] a fd) (gm : mg "ahead_in" = some (.ref a)) (z : Fc K mg)  : CalK P w K mg base rhoU "ahead_in" 1 [] h_ahead_in 2 :=
  cal_mk (N := ["poll", "many", "found", "order", "place", "thing", "other"]) (ps := ["poll"]) (k := 1) (g := b_ahead_in) [] F gm ⟨rfl, rfl, rfl, by decide +kernel, rfl, by decide +kernel, by decide +kernel⟩ (by decide) (fun _ _ _ _ _ _ us hl => match us, hl with | [_], _ => rfl) (fun cdv A outer s H E hr V0 => by
    exact
  (vss_cons (vs_asg V0.nd 1 (ve_cb (v_len) z.f_len b_len (va_cons (ve_ix (ve_var 0) ve_int) va_nil)))
  (vss_cons (vs_asgLcT V0 2 [("thing", 5)] (t := (gName 5)) (vi_range1 z.f_range (ve_var 1)) (by kernel_rfl) (fun _ _ _ _ _ => pg_name V0.nd rfl (Or.inl rfl)) (sg_name (by decide)) (wg_name (by decide)) (fun s H C cl fp V0 => vc_no) (fun s H C cl fp V0 => (ve_op v_mul (ve_lst (vd_cons ve_int vd_nil)) (ve_var 1))) (sw_true rfl rfl rfl (by decide +kernel)))
  (vss_cons (vs_for V0 [3, 4, 5, 6] (vi_seq (ve_var 0)) (vg_name V0.nd 3) (vss_one (vs_for V0 [4, 5, 6] (vi_enum z.f_enumerate (ve_var 3)) (vg_t2 V0.nd V0.calm 4 5) (vss_one (vs_for V0 [6] (vi_seq (ve_sl (ve_var 3) (vo_some (ve_op v_add (ve_var 4) ve_int)) vo_no)) (vg_name V0.nd 6) (vss_one (vs_augP i_add (vpl_ix (vpl_n 2) (ve_var 5)) (ve_var 6) ve_int)))))))
  (vss_one (vs_retO (ve_var 2))))))) (by decide)
theorem ok_is_whole {a : Addr} {fd : FuncData} (F : FunD K "is_whole" "is_whole" (defArgs s_is_whole) (defBody s_is_whole) (defScope s_is_whole) [] [] a fd) (gm : mg "is_whole" = some (.ref a)) (z : Fc K mg)  : CalK P w K mg base rhoU "is_whole" 1 [] h_is_whole 2 :=
  cal_mk (N := ["thing"]) (ps := ["thing"]) (k := 1) (g := b_is_whole) [] F gm ⟨rfl, rfl, rfl, by decide +kernel, rfl, by decide +kernel, by decide +kernel⟩ (by decide) (fun _ _ _ _ _ _ us hl => match us, hl with | [_], _ => rfl) (fun cdv A outer s H E hr V0 => by
    exact
  (vss_one (vs_retO (ve_and (ve_isi .int (ve_var 0) z.f_isinstance z.f_int b_int) (ve_one (ve_not (ve_isi .bool (ve_var 0) z.f_isinstance z.f_bool b_bool))))))) (by decide)
theorem ok_is_order {a : Addr} {fd : FuncData} (F : FunD K "is_order" "is_order" (defArgs s_is_order) (defBody s_is_order) (defScope s_is_order) [] [] a fd) (gm : mg "is_order" = some (.ref a)) (z : Fc K mg) (c_is_whole : CalK P w K mg base rhoU "is_whole" 1 [] h_is_whole 2) : CalK P w K mg base rhoU "is_order" 1 [] h_is_order 3 :=
  cal_mk (N := ["thing", "one"]) (ps := ["thing"]) (k := 2) (g := b_is_order) [] F gm ⟨rfl, rfl, rfl, by decide +kernel, rfl, by decide +kernel, by decide +kernel⟩ (by decide) (fun _ _ _ _ _ _ us hl => match us, hl with | [_], _ => rfl) (fun cdv A outer s H E hr V0 => by
    exact
  (vss_cons (vs_if (VW.vt (vw_or (vt_not (vt_of (fun _ => rfl) (ve_isi .list (ve_var 0) z.f_isinstance z.f_list b_list))) (vw_or1 (vt_not (vt_chain v_le v_le ve_int (ve_cb (v_len) z.f_len b_len (va_cons (ve_var 0) va_nil)) (ve_gint z.i_MOST_THINGS)))))) (vss_one (vs_retO ve_bl)) vss_nil)
  (vss_cons (vs_if (vt_cmp (v_ne (by have := V0.room.un; omega)) (ve_lc V0 [("one", 1)] (t := (gName 1)) (vi_seq (ve_var 0)) (by kernel_rfl) (fun _ _ _ _ _ => pg_name V0.nd rfl (Or.inl rfl)) (sg_name (by decide)) (wg_name (by decide)) (fun s H C cl fp V0 => (vc_if (vt_not (vt_of (fun _ => rfl) (ve_callP V0 c_is_whole.c (hr.mono (by decide)) (va_P (ve_var 1) va_nil)))))) (fun s H C cl fp V0 => (ve_var 1))) (ve_lst vd_nil)) (vss_one (vs_retO ve_bl)) vss_nil)
  (vss_one (vs_retO (ve_cmp (v_eq (by have := V0.room.un; omega)) (ve_cb (v_sorted) z.f_sorted b_sorted (va_cons (ve_var 0) va_nil)) (ve_listRg1 V0.calm z.f_list z.f_range (ve_cb (v_len) z.f_len b_len (va_cons (ve_var 0) va_nil))))))))) (by decide)
theorem ok_need_poll {a : Addr} {fd : FuncData} (F : FunD K "need_poll" "need_poll" (defArgs s_need_poll) (defBody s_need_poll) (defScope s_need_poll) [] [] a fd) (gm : mg "need_poll" = some (.ref a)) (z : Fc K mg) (c_is_order : CalK P w K mg base rhoU "is_order" 1 [] h_is_order 3) : CalK P w K mg base rhoU "need_poll" 1 [] h_need_poll 4 :=
  cal_mk (N := ["poll", "order"]) (ps := ["poll"]) (k := 3) (g := b_need_poll) [] F gm ⟨rfl, rfl, rfl, by decide +kernel, rfl, by decide +kernel, by decide +kernel⟩ (by decide) (fun _ _ _ _ _ _ us hl => match us, hl with | [_], _ => rfl) (fun cdv A outer s H E hr V0 => by
    exact
  (vss_cons (vs_if (VW.vt (vw_or (vt_not (vt_of (fun _ => rfl) (ve_isi .list (ve_var 0) z.f_isinstance z.f_list b_list))) (vw_or1 (vt_not (vt_chain v_le v_le ve_int (ve_cb (v_len) z.f_len b_len (va_cons (ve_var 0) va_nil)) (ve_gint z.i_MOST_POLL)))))) (vss_one (vs_raise V0 z.x_NoOrder)) vss_nil)
  (vss_cons (vs_if (vt_cmp (v_ne (by have := V0.room.un; omega)) (ve_lc V0 [("order", 1)] (t := (gName 1)) (vi_seq (ve_var 0)) (by kernel_rfl) (fun _ _ _ _ _ => pg_name V0.nd rfl (Or.inl rfl)) (sg_name (by decide)) (wg_name (by decide)) (fun s H C cl fp V0 => (vc_if (vt_not (vt_of (fun _ => rfl) (ve_callP V0 c_is_order.c (hr.mono (by decide)) (va_P (ve_var 1) va_nil)))))) (fun s H C cl fp V0 => (ve_var 1))) (ve_lst vd_nil)) (vss_one (vs_raise V0 z.x_NoOrder)) vss_nil)
  (vss_one (vs_if (vt_cmp (v_ne (by have := V0.room.un; omega)) (ve_lc V0 [("order", 1)] (t := (gName 1)) (vi_seq (ve_var 0)) (by kernel_rfl) (fun _ _ _ _ _ => pg_name V0.nd rfl (Or.inl rfl)) (sg_name (by decide)) (wg_name (by decide)) (fun s H C cl fp V0 => (vc_if (vt_cmp (v_ne (by have := V0.room.un; omega)) (ve_cb (v_len) z.f_len b_len (va_cons (ve_var 1) va_nil)) (ve_cb (v_len) z.f_len b_len (va_cons (ve_ix (ve_var 0) ve_int) va_nil))))) (fun s H C cl fp V0 => (ve_var 1))) (ve_lst vd_nil)) (vss_one (vs_raise V0 z.x_NoOrder)) vss_nil))))) (by decide)
theorem ok_pairs_ahead {a : Addr} {fd : FuncData} (F : FunD K "pairs_ahead" "pairs_ahead" (defArgs s_pairs_ahead) (defBody s_pairs_ahead) (defScope s_pairs_ahead) [] [] a fd) (gm : mg "pairs_ahead" = some (.ref a)) (z : Fc K mg) (c_ahead_in : CalK P w K mg base rhoU "ahead_in" 1 [] h_ahead_in 2) (c_need_poll : CalK P w K mg base rhoU "need_poll" 1 [] h_need_poll 4) : CalK P w K mg base rhoU "pairs_ahead" 1 [] h_pairs_ahead 5 :=
  cal_mk (N := ["poll", "ahead", "found", "one", "other"]) (ps := ["poll"]) (k := 4) (g := b_pairs_ahead) [] F gm ⟨rfl, rfl, rfl, by decide +kernel, rfl, by decide +kernel, by decide +kernel⟩ (by decide) (fun _ _ _ _ _ _ us hl => match us, hl with | [_], _ => rfl) (fun cdv A outer s H E hr V0 => by
    exact
  (vss_cons (vs_expr (ve_callP V0 c_need_poll.c (hr.mono (by decide)) (va_P (ve_var 0) va_nil)))
  (vss_cons (vs_asg V0.nd 1 (ve_ice (ve_call (mi := []) V0 c_ahead_in.c (hr.mono (by decide)) (va_F (ve_var 0) va_nil))))
  (vss_cons (vs_own V0.nd 2 (ve_tnew rfl))
  (vss_cons (vs_for V0 [3, 4] (vi_range1 z.f_range (ve_cb (v_len) z.f_len b_len (va_cons (ve_var 1) va_nil))) (vg_name V0.nd 3) (vss_one (vs_for V0 [4] (vi_range2 z.f_range (ve_op v_add (ve_var 3) ve_int) (ve_cb (v_len) z.f_len b_len (va_cons (ve_var 1) va_nil))) (vg_name V0.nd 4) (vss_one (vs_tput rfl (by have := V0.room.un; omega) 2 (ve_tup (vd_cons (ve_var 3) (vd_cons (ve_var 4) vd_nil))) (ve_ix (ve_ix (ve_var 1) (ve_var 3)) (ve_var 4)))))))
  (vss_one (vs_retO (ve_var 2)))))))) (by decide)
theorem ok_pair_sum {a : Addr} {fd : FuncData} (F : FunD K "pair_sum" "pair_sum" (defArgs s_pair_sum) (defBody s_pair_sum) (defScope s_pair_sum) [] [] a fd) (gm : mg "pair_sum" = some (.ref a)) (z : Fc K mg) (c_pairs_ahead : CalK P w K mg base rhoU "pairs_ahead" 1 [] h_pairs_ahead 5) : CalK P w K mg base rhoU "pair_sum" 1 [] h_pair_sum 6 :=
  cal_mk (N := ["poll", "found", "many"]) (ps := ["poll"]) (k := 5) (g := b_pair_sum) [] F gm ⟨rfl, rfl, rfl, by decide +kernel, rfl, by decide +kernel, by decide +kernel⟩ (by decide) (fun _ _ _ _ _ _ us hl => match us, hl with | [_], _ => rfl) (fun cdv A outer s H E hr V0 => by
    exact
  (vss_cons (vs_own V0.nd 1 (ve_call (mi := []) V0 c_pairs_ahead.c (hr.mono (by decide)) (va_F (ve_var 0) va_nil)))
  (vss_one (vs_retO (ve_cb (v_sum V0.calm) z.f_sum b_sum (va_cons (ve_frzT rfl rfl 1 (ve_lc V0 [("many", 2)] (t := (gName 2)) (vi_valsT rfl 1) (by kernel_rfl) (fun _ _ _ _ _ => pg_name V0.nd rfl (Or.inl rfl)) (sg_name (by decide)) (wg_name (by decide)) (fun s H C cl fp V0 => vc_no) (fun s H C cl fp V0 => (ve_cb (v_min V0.calm) z.f_min b_min (va_cons (ve_var 2) (va_cons (ve_op v_sub (ve_cb (v_len) z.f_len b_len (va_cons (ve_var 0) va_nil)) (ve_var 2)) va_nil)))))) va_nil)))))) (by decide)
theorem ok_law {a : Addr} {fd : FuncData} (F : FunD K "law" "law" (defArgs s_law) (defBody s_law) (defScope s_law) [] [] a fd) (z : Fc K mg) (c__law_ahead : CalK P w K mg base rhoU "_law_ahead" 1 [] h__law_ahead 3) (c__law_cell_at : CalK P w K mg base rhoU "_law_cell_at" 2 [] h__law_cell_at 2) (c__law_copied : CalK P w K mg base rhoU "_law_copied" 1 [] h__law_copied 2) (c__law_deck : CalK P w K mg base rhoU "_law_deck" 2 [] h__law_deck 3) (c__law_next : CalK P w K mg base rhoU "_law_next" 1 [0] h__law_next 3) (c__law_poll : CalK P w K mg base rhoU "_law_poll" 3 [0] h__law_poll 5) (c__law_whole : CalK P w K mg base rhoU "_law_whole" 1 [] h__law_whole 2) (c_pair_sum : CalK P w K mg base rhoU "pair_sum" 1 [] h_pair_sum 6) (c_pairs_ahead : CalK P w K mg base rhoU "pairs_ahead" 1 [] h_pairs_ahead 5) : FnG P w K mg base 7 a fd ["script"] (spV ⟨K, mg, rhoU⟩ 1 [] h_law) :=
  fn_mkV (N := ["script", "k", "deck", "n", "poll", "ahead", "due", "total", "handed", "again", "found", "one", "other", "number", "pair", "many"]) (ps := ["script"]) (k := 6) (g := b_law) [] F ⟨rfl, rfl, rfl, by decide +kernel, rfl, by decide +kernel, by decide +kernel⟩ (by decide) (fun cdv A outer s H E hr V0 => by
    exact
  (vss_cons (vs_for V0 [1, 2, 3, 4, 5, 6, 7, 8, 9, 10, 11, 12, 13] (vi_range1 z.f_range (ve_cb (v_max V0.calm) z.f_max b_max (va_cons ve_int (va_cons (ve_cb (v_min V0.calm) z.f_min b_min (va_cons (ve_scLen (ve_var 0) z.f_len b_len) (va_cons ve_int va_nil))) va_nil)))) (vg_name V0.nd 1) (vss_cons (vs_own V0.nd 2 (ve_call (mi := []) V0 c__law_deck.c (hr.mono (by decide)) (va_F (ve_call (mi := []) V0 c__law_cell_at.c (hr.mono (by decide)) (va_F (ve_var 0) (va_F (ve_var 1) va_nil))) (va_F ve_int va_nil))))
  (vss_cons (vs_asg V0.nd 3 (ve_ix (ve_lst (vd_cons (ve_op v_add ve_int (ve_op v_mod (ve_call (mi := [(0, 2)]) V0 c__law_next.c (hr.mono (by decide)) (va_M 2 va_nil)) ve_int)) (vd_cons (ve_op v_add ve_int (ve_op v_mod (ve_call (mi := [(0, 2)]) V0 c__law_next.c (hr.mono (by decide)) (va_M 2 va_nil)) ve_int)) (vd_cons ve_int vd_nil)))) (ve_op v_mod (ve_call (mi := [(0, 2)]) V0 c__law_next.c (hr.mono (by decide)) (va_M 2 va_nil)) ve_int)))
  (vss_cons (vs_asg V0.nd 4 (ve_call (mi := [(0, 2)]) V0 c__law_poll.c (hr.mono (by decide)) (va_M 2 (va_F (ve_var 3) (va_F ve_int va_nil)))))
  (vss_cons (vs_own V0.nd 5 (ve_call (mi := []) V0 c__law_ahead.c (hr.mono (by decide)) (va_F (ve_var 4) va_nil)))
  (vss_cons (vs_own V0.nd 6 (ve_ct (v_dictT rfl V0.calm V0.u66) z.f_dict b_dict (va_cons (ve_frzT rfl rfl 5 (ve_lc V0 [("pair", 14)] (t := (gName 14)) (vi_keysT rfl 5) (by kernel_rfl) (fun _ _ _ _ _ => pg_name V0.nd rfl (Or.inl rfl)) (sg_name (by decide)) (wg_name (by decide)) (fun s H C cl fp V0 => (vc_if (vt_cmp v_lt (ve_ix (ve_var 14) ve_int) (ve_ix (ve_var 14) ve_int)))) (fun s H C cl fp V0 => (ve_tup (vd_cons (ve_var 14) (vd_cons (ve_fget rfl 5 (by have := V0.room.un; omega) (ve_var 14)) vd_nil)))))) va_nil)))
  (vss_cons (vs_asg V0.nd 7 (ve_cb (v_sum V0.calm) z.f_sum b_sum (va_cons (ve_frzT rfl rfl 6 (ve_lc V0 [("many", 15)] (t := (gName 15)) (vi_valsT rfl 6) (by kernel_rfl) (fun _ _ _ _ _ => pg_name V0.nd rfl (Or.inl rfl)) (sg_name (by decide)) (wg_name (by decide)) (fun s H C cl fp V0 => vc_no) (fun s H C cl fp V0 => (ve_cb (v_min V0.calm) z.f_min b_min (va_cons (ve_var 15) (va_cons (ve_op v_sub (ve_cb (v_len) z.f_len b_len (va_cons (ve_var 4) va_nil)) (ve_var 15)) va_nil)))))) va_nil)))
  (vss_cons (vs_asg V0.nd 8 (ve_call (mi := []) V0 c__law_copied.c (hr.mono (by decide)) (va_F (ve_var 4) va_nil)))
  (vss_one (vs_for V0 [9, 10, 11, 12, 13] (vi_range1 z.f_range ve_int) (vg_name V0.nd 9) (vss_cons (vs_own V0.nd 10 (ve_call (mi := []) V0 c_pairs_ahead.c (hr.mono (by decide)) (va_F (ve_var 8) va_nil)))
  (vss_cons (vs_if (VW.vt (vw_or (vt_not (vt_of (fun _ => rfl) (ve_isDT rfl 10 z.f_isinstance z.f_dict b_dict))) (vw_or (vt_neD rfl rfl (by have := V0.room.un; omega) 10 6) (vw_or1 (vt_cmp (v_ne (by have := V0.room.un; omega)) (ve_var 8) (ve_var 4)))))) (vss_one (vs_retO ve_bl)) vss_nil)
  (vss_cons (vs_lockT rfl rfl 10 [0, 1, 2, 3, 4, 5, 6, 7, 8, 9, 10, 11, 12, 13, 14] (vs_if (vt_cmp (v_ne (by have := V0.room.un; omega)) (ve_lc V0 [("many", 15)] (t := (gName 15)) (vi_valsT rfl 10) (by kernel_rfl) (fun _ _ _ _ _ => pg_name V0.nd rfl (Or.inl rfl)) (sg_name (by decide)) (wg_name (by decide)) (fun s H C cl fp V0 => (vc_if (vt_not (vt_of (fun _ => rfl) (ve_callP V0 c__law_whole.c (hr.mono (by decide)) (va_P (ve_var 15) va_nil)))))) (fun s H C cl fp V0 => (ve_var 15))) (ve_lst vd_nil)) (vss_one (vs_retO ve_bl)) vss_nil))
  (vss_cons (vs_lockT rfl rfl 10 [0, 1, 2, 3, 4, 5, 6, 7, 8, 9, 10, 13, 14, 15] (vs_for V0 [11, 12] (vi_keysT rfl 10) (vg_t2 V0.nd V0.calm 11 12) (vss_one (vs_if (VW.vt (vw_or (vt_not (vt_of (fun _ => rfl) (ve_callP V0 c__law_whole.c (hr.mono (by decide)) (va_P (ve_var 11) va_nil)))) (vw_or1 (vt_not (vt_of (fun _ => rfl) (ve_callP V0 c__law_whole.c (hr.mono (by decide)) (va_P (ve_var 12) va_nil))))))) (vss_one (vs_retO ve_bl)) vss_nil))))
  (vss_cons (vs_lockT rfl rfl 10 [0, 1, 2, 3, 4, 5, 6, 7, 8, 9, 10, 11, 12, 13, 15] (vs_if (vt_cmp (v_ne (by have := V0.room.un; omega)) (ve_lc V0 [("pair", 14)] (t := (gName 14)) (vi_keysT rfl 10) (by kernel_rfl) (fun _ _ _ _ _ => pg_name V0.nd rfl (Or.inl rfl)) (sg_name (by decide)) (wg_name (by decide)) (fun s H C cl fp V0 => (vc_if (vt_not (vt_of (fun _ => rfl) (ve_isi .tuple (ve_var 14) z.f_isinstance z.f_tuple b_tuple))))) (fun s H C cl fp V0 => (ve_var 14))) (ve_lst vd_nil)) (vss_one (vs_retO ve_bl)) vss_nil))
  (vss_cons (vs_expr (ve_clrD rfl 10))
  (vss_cons (vs_asg V0.nd 13 (ve_callP V0 c_pair_sum.c (hr.mono (by decide)) (va_P (ve_var 8) va_nil)))
  (vss_one (vs_if (VW.vt (vw_or (vt_not (vt_of (fun _ => rfl) (ve_callP V0 c__law_whole.c (hr.mono (by decide)) (va_P (ve_var 13) va_nil)))) (vw_or (vt_cmp (v_ne (by have := V0.room.un; omega)) (ve_var 13) (ve_var 7)) (vw_or1 (vt_cmp (v_ne (by have := V0.room.un; omega)) (ve_var 8) (ve_var 4)))))) (vss_one (vs_retO ve_bl)) vss_nil)))))))))))))))))))
  (vss_one (vs_retO ve_bl)))) (by decide)
end
def d__law_places : He.DefD := ⟨("_law_places", none), "_law_places", "_law_places", defArgs s__law_places, defBody s__law_places, defScope s__law_places, [], []⟩
def d__law_ahead : He.DefD := ⟨("_law_ahead", none), "_law_ahead", "_law_ahead", defArgs s__law_ahead, defBody s__law_ahead, defScope s__law_ahead, [], []⟩
def d__law_cell_at : He.DefD := ⟨("_law_cell_at", none), "_law_cell_at", "_law_cell_at", defArgs s__law_cell_at, defBody s__law_cell_at, defScope s__law_cell_at, [], []⟩
def d__law_copied : He.DefD := ⟨("_law_copied", none), "_law_copied", "_law_copied", defArgs s__law_copied, defBody s__law_copied, defScope s__law_copied, [], []⟩
def d__law_stir : He.DefD := ⟨("_law_stir", none), "_law_stir", "_law_stir", defArgs s__law_stir, defBody s__law_stir, defScope s__law_stir, [], []⟩
def d__law_deck : He.DefD := ⟨("_law_deck", none), "_law_deck", "_law_deck", defArgs s__law_deck, defBody s__law_deck, defScope s__law_deck, [], []⟩
def d__law_next : He.DefD := ⟨("_law_next", none), "_law_next", "_law_next", defArgs s__law_next, defBody s__law_next, defScope s__law_next, [], []⟩
def d__law_near : He.DefD := ⟨("_law_near", none), "_law_near", "_law_near", defArgs s__law_near, defBody s__law_near, defScope s__law_near, [], []⟩
def d__law_order : He.DefD := ⟨("_law_order", none), "_law_order", "_law_order", defArgs s__law_order, defBody s__law_order, defScope s__law_order, [], []⟩
def d__law_poll : He.DefD := ⟨("_law_poll", none), "_law_poll", "_law_poll", defArgs s__law_poll, defBody s__law_poll, defScope s__law_poll, [], []⟩
def d__law_whole : He.DefD := ⟨("_law_whole", none), "_law_whole", "_law_whole", defArgs s__law_whole, defBody s__law_whole, defScope s__law_whole, [], []⟩
def d_ahead_in : He.DefD := ⟨("ahead_in", none), "ahead_in", "ahead_in", defArgs s_ahead_in, defBody s_ahead_in, defScope s_ahead_in, [], []⟩
def d_is_whole : He.DefD := ⟨("is_whole", none), "is_whole", "is_whole", defArgs s_is_whole, defBody s_is_whole, defScope s_is_whole, [], []⟩
def d_is_order : He.DefD := ⟨("is_order", none), "is_order", "is_order", defArgs s_is_order, defBody s_is_order, defScope s_is_order, [], []⟩
def d_need_poll : He.DefD := ⟨("need_poll", none), "need_poll", "need_poll", defArgs s_need_poll, defBody s_need_poll, defScope s_need_poll, [], []⟩
def d_pairs_ahead : He.DefD := ⟨("pairs_ahead", none), "pairs_ahead", "pairs_ahead", defArgs s_pairs_ahead, defBody s_pairs_ahead, defScope s_pairs_ahead, [], []⟩
def d_pair_sum : He.DefD := ⟨("pair_sum", none), "pair_sum", "pair_sum", defArgs s_pair_sum, defBody s_pair_sum, defScope s_pair_sum, [], []⟩
def d_law : He.DefD := ⟨("law", none), "law", "law", defArgs s_law, defBody s_law, defScope s_law, [], []⟩
def fn : List He.DefD := [d__law_places, d__law_ahead, d__law_cell_at, d__law_copied, d__law_stir, d__law_deck, d__law_next, d__law_near, d__law_order, d__law_poll, d__law_whole, d_ahead_in, d_is_whole, d_is_order, d_need_poll, d_pairs_ahead, d_pair_sum, d_law]
def fa0 : List He.Fa := [.glo "_law_places", .glo "_law_ahead", .glo "_law_cell_at", .glo "_law_copied", .glo "_law_stir", .glo "_law_deck", .glo "_law_next", .glo "_law_near", .glo "_law_order", .glo "_law_poll", .glo "_law_whole", .glo "ahead_in", .glo "is_whole", .glo "is_order", .glo "need_poll", .glo "pairs_ahead", .glo "pair_sum", .glo "law", .exc "NoOrder", .glo "NoOrder", .free "bool", .free "dict", .free "enumerate", .free "int", .free "isinstance", .free "len", .free "list", .free "max", .free "min", .free "range"]
def fa1 : List He.Fa := [.free "sorted", .free "sum", .free "tuple", .int "MOST_POLL" 20, .int "MOST_THINGS" 12]
def fa : List He.Fa := fa0 ++ fa1
abbrev nm : List Str := (["OrderError", "NoOrder", "MOST_THINGS", "is_whole", "is_order", "MOST_POLL", "need_poll", "ahead_in", "pairs_ahead", "pair_sum", "_law_cell_at", "_law_stir", "_law_deck", "_law_next", "_law_order", "_law_near", "_law_poll", "_law_places", "_law_whole", "_law_copied", "_law_ahead"] : List Str)
abbrev RW_ : PySem.W.OpenRow := PySem.W.OpenLaw.row PySem.Challenge.rw_farorders_k66_pairs_ahead
abbrev hk : PySem.W.Hook := He.hookD 4 fa fn
def obW (s : PySem.W.SharedT) : He.AlD := He.obsDG 4 fa fn (HandSHeadRun.getT s)
theorem ob_eq (s : PySem.W.SharedT) : obW s = hk.obs s.abs := He.obsDG_eq (HandSHeadRun.getT_eq s)
theorem run (w : World) : HandSHeadRun.RunEq RW_ (PySem.W.view RW_.prog [25]) hk obW 4000 nm w := by
  intro os
  kernel_rfl
theorem facts {P : Program} {w : World} {K : PySem.W.Frag} {h : Heap} {mg : Str → Option Value} {f : Addr} (X : K.In h) (G : h.Ns mainGlobals mg) (hfa : mg ("law" : Str) = some (.ref f)) (c : He.SaysD fa fn K) :
    ∃ fd : FuncData, (∀ (s : Shared) (v : Value), BindsTo s fd ⟨[v], []⟩ [("script", v)]) ∧ ∀ base : Heap, K.In base → base.Ns mainGlobals mg → FnG P w K mg base 7 f fd ["script"] (spV ⟨K, mg, rhoU⟩ 1 [] h_law) := by
  obtain ⟨fd__law_places, F__law_places⟩ := c.def_ 0 (d := d__law_places) rfl
  have g__law_places := He.glo_ok X G (c.fact 0 (f := .glo "_law_places") rfl)
  obtain ⟨fd__law_ahead, F__law_ahead⟩ := c.def_ 1 (d := d__law_ahead) rfl
  have g__law_ahead := He.glo_ok X G (c.fact 1 (f := .glo "_law_ahead") rfl)
  obtain ⟨fd__law_cell_at, F__law_cell_at⟩ := c.def_ 2 (d := d__law_cell_at) rfl
  have g__law_cell_at := He.glo_ok X G (c.fact 2 (f := .glo "_law_cell_at") rfl)
  obtain ⟨fd__law_copied, F__law_copied⟩ := c.def_ 3 (d := d__law_copied) rfl
  have g__law_copied := He.glo_ok X G (c.fact 3 (f := .glo "_law_copied") rfl)
  obtain ⟨fd__law_stir, F__law_stir⟩ := c.def_ 4 (d := d__law_stir) rfl
  have g__law_stir := He.glo_ok X G (c.fact 4 (f := .glo "_law_stir") rfl)
  obtain ⟨fd__law_deck, F__law_deck⟩ := c.def_ 5 (d := d__law_deck) rfl
  have g__law_deck := He.glo_ok X G (c.fact 5 (f := .glo "_law_deck") rfl)
  obtain ⟨fd__law_next, F__law_next⟩ := c.def_ 6 (d := d__law_next) rfl
  have g__law_next := He.glo_ok X G (c.fact 6 (f := .glo "_law_next") rfl)
  obtain ⟨fd__law_near, F__law_near⟩ := c.def_ 7 (d := d__law_near) rfl
  have g__law_near := He.glo_ok X G (c.fact 7 (f := .glo "_law_near") rfl)
  obtain ⟨fd__law_order, F__law_order⟩ := c.def_ 8 (d := d__law_order) rfl
  have g__law_order := He.glo_ok X G (c.fact 8 (f := .glo "_law_order") rfl)
  obtain ⟨fd__law_poll, F__law_poll⟩ := c.def_ 9 (d := d__law_poll) rfl
  have g__law_poll := He.glo_ok X G (c.fact 9 (f := .glo "_law_poll") rfl)
  obtain ⟨fd__law_whole, F__law_whole⟩ := c.def_ 10 (d := d__law_whole) rfl
  have g__law_whole := He.glo_ok X G (c.fact 10 (f := .glo "_law_whole") rfl)
  obtain ⟨fd_ahead_in, F_ahead_in⟩ := c.def_ 11 (d := d_ahead_in) rfl
  have g_ahead_in := He.glo_ok X G (c.fact 11 (f := .glo "ahead_in") rfl)
  obtain ⟨fd_is_whole, F_is_whole⟩ := c.def_ 12 (d := d_is_whole) rfl
  have g_is_whole := He.glo_ok X G (c.fact 12 (f := .glo "is_whole") rfl)
  obtain ⟨fd_is_order, F_is_order⟩ := c.def_ 13 (d := d_is_order) rfl
  have g_is_order := He.glo_ok X G (c.fact 13 (f := .glo "is_order") rfl)
  obtain ⟨fd_need_poll, F_need_poll⟩ := c.def_ 14 (d := d_need_poll) rfl
  have g_need_poll := He.glo_ok X G (c.fact 14 (f := .glo "need_poll") rfl)
  obtain ⟨fd_pairs_ahead, F_pairs_ahead⟩ := c.def_ 15 (d := d_pairs_ahead) rfl
  have g_pairs_ahead := He.glo_ok X G (c.fact 15 (f := .glo "pairs_ahead") rfl)
  obtain ⟨fd_pair_sum, F_pair_sum⟩ := c.def_ 16 (d := d_pair_sum) rfl
  have g_pair_sum := He.glo_ok X G (c.fact 16 (f := .glo "pair_sum") rfl)
  obtain ⟨fd_law, F_law⟩ := c.def_ 17 (d := d_law) rfl
  have g_law := He.glo_ok X G (c.fact 17 (f := .glo "law") rfl)
  have z : Fc K mg := {
    x_NoOrder := xc_ok X G (c.fact 18 (f := .exc "NoOrder") rfl) (c.fact 19 (f := .glo "NoOrder") rfl)
    f_bool := He.free_ok X G (c.fact 20 (f := .free "bool") rfl)
    f_dict := He.free_ok X G (c.fact 21 (f := .free "dict") rfl)
    f_enumerate := He.free_ok X G (c.fact 22 (f := .free "enumerate") rfl)
    f_int := He.free_ok X G (c.fact 23 (f := .free "int") rfl)
    f_isinstance := He.free_ok X G (c.fact 24 (f := .free "isinstance") rfl)
    f_len := He.free_ok X G (c.fact 25 (f := .free "len") rfl)
    f_list := He.free_ok X G (c.fact 26 (f := .free "list") rfl)
    f_max := He.free_ok X G (c.fact 27 (f := .free "max") rfl)
    f_min := He.free_ok X G (c.fact 28 (f := .free "min") rfl)
    f_range := He.free_ok X G (c.fact 29 (f := .free "range") rfl)
    f_sorted := He.free_ok X G (c.fact 30 (f := .free "sorted") rfl)
    f_sum := He.free_ok X G (c.fact 31 (f := .free "sum") rfl)
    f_tuple := He.free_ok X G (c.fact 32 (f := .free "tuple") rfl)
    i_MOST_POLL := He.int_ok X G (c.fact 33 (f := .int "MOST_POLL" 20) rfl)
    i_MOST_THINGS := He.int_ok X G (c.fact 34 (f := .int "MOST_THINGS" 12) rfl)
  }
  have e := hfa.symm.trans g_law
  cases e
  have b := FunD.bindsA (ps := ["script"]) F_law fun _ _ _ _ _ _ us hl => match us, hl with | [_], _ => rfl
  refine ⟨fd_law, fun s v => b s [v] rfl, fun base _ _ => ?_⟩
  have c__law_places := ok__law_places (P := P) (w := w) (base := base) F__law_places g__law_places z 
  have c__law_ahead := ok__law_ahead (P := P) (w := w) (base := base) F__law_ahead g__law_ahead z c__law_places
  have c__law_cell_at := ok__law_cell_at (P := P) (w := w) (base := base) F__law_cell_at g__law_cell_at z 
  have c__law_copied := ok__law_copied (P := P) (w := w) (base := base) F__law_copied g__law_copied z 
  have c__law_stir := ok__law_stir (P := P) (w := w) (base := base) F__law_stir g__law_stir z 
  have c__law_deck := ok__law_deck (P := P) (w := w) (base := base) F__law_deck g__law_deck z c__law_stir
  have c__law_next := ok__law_next (P := P) (w := w) (base := base) F__law_next g__law_next z c__law_stir
  have c__law_near := ok__law_near (P := P) (w := w) (base := base) F__law_near g__law_near z c__law_next
  have c__law_order := ok__law_order (P := P) (w := w) (base := base) F__law_order g__law_order z c__law_next
  have c__law_poll := ok__law_poll (P := P) (w := w) (base := base) F__law_poll g__law_poll z c__law_near c__law_next c__law_order
  have c__law_whole := ok__law_whole (P := P) (w := w) (base := base) F__law_whole g__law_whole z 
  have c_ahead_in := ok_ahead_in (P := P) (w := w) (base := base) F_ahead_in g_ahead_in z 
  have c_is_whole := ok_is_whole (P := P) (w := w) (base := base) F_is_whole g_is_whole z 
  have c_is_order := ok_is_order (P := P) (w := w) (base := base) F_is_order g_is_order z c_is_whole
  have c_need_poll := ok_need_poll (P := P) (w := w) (base := base) F_need_poll g_need_poll z c_is_order
  have c_pairs_ahead := ok_pairs_ahead (P := P) (w := w) (base := base) F_pairs_ahead g_pairs_ahead z c_ahead_in c_need_poll
  have c_pair_sum := ok_pair_sum (P := P) (w := w) (base := base) F_pair_sum g_pair_sum z c_pairs_ahead
  exact ok_law F_law z c__law_ahead c__law_cell_at c__law_copied c__law_deck c__law_next c__law_poll c__law_whole c_pair_sum c_pairs_ahead
end K66
set_option maxRecDepth 100000
set_option maxHeartbeats 0
namespace K66
open PySem VL VP TM PySem.W.Datum PySem.SeqAt
open PySem.W (Datum Tup T3)
open L2 (atI ixN)
def m__law_places (order : (List Int)) : R ((List (Int × Int))) :=
  R.bind (foldM (fun (s3 : (List (Int × Int))) (x4 : (Int × Int)) =>
  ob (putG s3 x4.2 x4.1) fun v5 =>
  .ok v5) ((enumT 0 order)) (([] : (List (Int × Int))))) fun (s6 : (List (Int × Int))) =>
  .ok s6
theorem sim__law_places (order : (List Int)) : FnS h__law_places [.fr (toD (order : (List Int)))] (m__law_places order) (fun a : (List (Int × Int)) => .o (dD (a : (List (Int × Int))))) (fun a : (List (Int × Int)) => []) :=
  fn_mk (n := 3) (rv := fun a : (List (Int × Int)) => .o (dD (a : (List (Int × Int))))) (ss := [(.d (toD (order : (List Int))))]) (Γe := fun a : (List (Int × Int)) => [none, none, none, none]) rfl (.cons rfl All2.nil) rfl
  (j_own (j_dnew (κ := Int) (υ := Int) (j_ownb (j_setO (j_seq (Γs := fun (s3 : (List (Int × Int))) => [some (.d (toD (order : (List Int)))), some (.o (dD (s3 : (List (Int × Int))))), none, none]) (j_sFor (j_iEnum (j_var rfl (j_it (fz_d rfl) (selE_map toD _) (j_for (l := [1, 1, 0, 0]) (D := toD) (Γs := fun (s3 : (List (Int × Int))) => [some (.d (toD (order : (List Int)))), some (.o (dD (s3 : (List (Int × Int))))), none, none]) (([] : (List (Int × Int)))) rfl (fun _ => rfl) fun s3 x4 => (j_gT2 (j_last (j_putD (j_var rfl (j_fz (fz_d rfl) (j_has rfl (j_var rfl (j_putDop (κ := Int) (υ := Int) rfl (rd_d rfl) fun v5 => (j_nil (l := [1, 1, 0, 0]) rfl rfl)))))))))))))) fun s6 => (j_last (j_ret (j_var rfl (j_rets (l := [0, 0, 0, 0]) rfl (fun _ => sl_id) rfl rfl))))))))) (fun a p hp => nomatch hp)
def m__law_ahead (poll : (List (List Int))) : R ((List ((Int × Int) × Int))) :=
  R.bind (lcM (fun (x1 : (List Int)) => R.calm (R.bind (m__law_places x1) fun v2 =>
  .ok (some v2))) poll []) fun ys3 =>
  R.bind (ob (atI poll ((0 : Int))) fun v4 =>
  ob (rg1 ((v4.length : Int))) fun xs5 =>
  foldM (fun (s46 : (List ((Int × Int) × Int))) (x47 : Int) =>
  R.bind (ob (atI poll ((0 : Int))) fun v48 =>
  ob (rg1 ((v48.length : Int))) fun xs49 =>
  foldM (fun (s60 : (List ((Int × Int) × Int))) (x61 : Int) =>
  R.bind (lcM (fun (x62 : (List (Int × Int))) => R.calm (ob (lookT x62 x47) fun v63 =>
  ob (lookT x62 x61) fun v64 =>
  if (decide (v63 < v64)) = true then
  (.ok (some ((1 : Int))))
  else
  (.ok none))) ys3 []) fun ys65 =>
  ob (putG s60 ((x47, x61)) ((ys65.length : Int))) fun v66 =>
  .ok v66) xs49 s46) fun (s67 : (List ((Int × Int) × Int))) =>
  .ok s67) xs5 (([] : (List ((Int × Int) × Int))))) fun (s68 : (List ((Int × Int) × Int))) =>
  .ok s68
theorem sim__law_ahead (poll : (List (List Int))) : FnS h__law_ahead [.fr (toD (poll : (List (List Int))))] (m__law_ahead poll) (fun a : (List ((Int × Int) × Int)) => .rs 2 (dD (a : (List ((Int × Int) × Int))))) (fun a : (List ((Int × Int) × Int)) => []) :=
  fn_mk (n := 6) (rv := fun a : (List ((Int × Int) × Int)) => .rs 2 (dD (a : (List ((Int × Int) × Int))))) (ss := [(.d (toD (poll : (List (List Int)))))]) (Γe := fun a : (List ((Int × Int) × Int)) => [none, none, none, none, none, none, none]) rfl (.cons rfl All2.nil) rfl
  (j_re (Γ' := [some (.d (toD (poll : (List (List Int))))), none, none, none, none, none, none]) rfl (j_asg (j_lc (j_iSeq (j_var rfl (j_it (fz_d rfl) rfl (j_lcM (Γs := [some (.d (toD (poll : (List (List Int))))), none, none, none, none, none, none]) (l := [1, 0, 0, 0, 0, 0, 0]) (D := toD) (E := (fun p : (List (Int × Int)) => (dD (p : (List (Int × Int)))))) (xr := fun a => (PyData.list ((a : (List (List (Int × Int)))).map (fun p : (List (Int × Int)) => (dD (p : (List (Int × Int)))))))) rfl rfl (fun x1 => (j_gN (j_tt (j_call (j_aF (j_var rfl (j_fzb (fzb_of (fz_d rfl)) (j_anil (j_callO rfl (ba_b ba_nil) (sim__law_places x1) (fun _ => rfl) fun v2 => (j_kf (l := [1, 0, 0, 0, 0, 0, 0]) fz_w rfl rfl)))))))))) (fun _ => rfl) fun ys3 => (j_fzb (fzb_of fz_w) (j_setD (j_re (Γ' := [some (.d (toD (poll : (List (List Int))))), some (.d (PyData.list ((ys3 : (List (List (Int × Int)))).map (fun p : (List (Int × Int)) => (dD (p : (List (Int × Int)))))))), none, none, none, none, none]) rfl (j_own (j_tnew (κ := (Int × Int)) (υ := Int) (j_ownb (j_setR (j_re (Γ' := [some (.d (toD (poll : (List (List Int))))), some (.d (PyData.list ((ys3 : (List (List (Int × Int)))).map (fun p : (List (Int × Int)) => (dD (p : (List (Int × Int)))))))), some (.rs 2 (dD (([] : (List ((Int × Int) × Int))) : (List ((Int × Int) × Int))))), none, none, none, none]) rfl (j_seq (Γs := fun (s46 : (List ((Int × Int) × Int))) => [some (.d (toD (poll : (List (List Int))))), some (.d (PyData.list ((ys3 : (List (List (Int × Int)))).map (fun p : (List (Int × Int)) => (dD (p : (List (Int × Int)))))))), some (.rs 2 (dD (s46 : (List ((Int × Int) × Int))))), none, none, none, none]) (j_sFor (j_iRg1 (j_cb (j_acons (j_bin (j_var rfl (j_c (j_opR (rd_d rfl) rd_b (x_ix (τ := (List Int))) fun v4 => (j_anil (j_cbop (ra_cons rd_b ra_nil) (x_len (τ := Int)) (j_rg1 rd_b fun xs5 => (j_for (l := [1, 1, 1, 0, 0, 0, 0]) (D := toD) (Γs := fun (s46 : (List ((Int × Int) × Int))) => [some (.d (toD (poll : (List (List Int))))), some (.d (PyData.list ((ys3 : (List (List (Int × Int)))).map (fun p : (List (Int × Int)) => (dD (p : (List (Int × Int)))))))), some (.rs 2 (dD (s46 : (List ((Int × Int) × Int))))), none, none, none, none]) (([] : (List ((Int × Int) × Int)))) rfl (fun _ => rfl) fun s46 x47 => (j_gN (j_last (j_re (Γ' := [some (.d (toD (poll : (List (List Int))))), some (.d (PyData.list ((ys3 : (List (List (Int × Int)))).map (fun p : (List (Int × Int)) => (dD (p : (List (Int × Int)))))))), some (.rs 2 (dD (s46 : (List ((Int × Int) × Int))))), some (.d (toD (x47 : Int))), none, none, none]) rfl (j_seq (Γs := fun (s60 : (List ((Int × Int) × Int))) => [some (.d (toD (poll : (List (List Int))))), some (.d (PyData.list ((ys3 : (List (List (Int × Int)))).map (fun p : (List (Int × Int)) => (dD (p : (List (Int × Int)))))))), some (.rs 2 (dD (s60 : (List ((Int × Int) × Int))))), some (.d (toD (x47 : Int))), none, none, none]) (j_sFor (j_iRg1 (j_cb (j_acons (j_bin (j_var rfl (j_c (j_opR (rd_d rfl) rd_b (x_ix (τ := (List Int))) fun v48 => (j_anil (j_cbop (ra_cons rd_b ra_nil) (x_len (τ := Int)) (j_rg1 rd_b fun xs49 => (j_for (l := [1, 1, 1, 1, 0, 0, 0]) (D := toD) (Γs := fun (s60 : (List ((Int × Int) × Int))) => [some (.d (toD (poll : (List (List Int))))), some (.d (PyData.list ((ys3 : (List (List (Int × Int)))).map (fun p : (List (Int × Int)) => (dD (p : (List (Int × Int)))))))), some (.rs 2 (dD (s60 : (List ((Int × Int) × Int))))), some (.d (toD (x47 : Int))), none, none, none]) s46 rfl (fun _ => rfl) fun s60 x61 => (j_gN (j_last (j_re (Γ' := [some (.d (toD (poll : (List (List Int))))), some (.d (PyData.list ((ys3 : (List (List (Int × Int)))).map (fun p : (List (Int × Int)) => (dD (p : (List (Int × Int)))))))), some (.rs 2 (dD (s60 : (List ((Int × Int) × Int))))), some (.d (toD (x47 : Int))), some (.d (toD (x61 : Int))), none, none]) rfl (j_tput (j_cb (j_acons (j_lc (j_iSeq (j_var rfl (j_it (fz_d rfl) rfl (j_lcM (Γs := [some (.d (toD (poll : (List (List Int))))), some (.d (PyData.list ((ys3 : (List (List (Int × Int)))).map (fun p : (List (Int × Int)) => (dD (p : (List (Int × Int)))))))), some (.rs 2 (dD (s60 : (List ((Int × Int) × Int))))), some (.d (toD (x47 : Int))), some (.d (toD (x61 : Int))), none, none]) (l := [1, 1, 1, 1, 1, 0, 0]) (D := (fun p : (List (Int × Int)) => (dD (p : (List (Int × Int)))))) (E := toD) (xr := fun a => toD a) rfl rfl (fun x62 => (j_gN (j_test (j_bin (j_bin (j_var rfl (j_var rfl (j_opR (rd_d rfl) (rd_d rfl) (x_dix (κ := Int) (υ := Int)) fun v63 => (j_bin (j_var rfl (j_var rfl (j_opR (rd_d rfl) (rd_d rfl) (x_dix (κ := Int) (υ := Int)) fun v64 => (j_op rd_b rd_b x_lt (j_bool rd_b (j_ite (j_c (j_kf (l := [1, 1, 1, 1, 1, 0, 0]) fz_b rfl rfl)) (j_skip (l := [1, 1, 1, 1, 1, 0, 0]) rfl rfl)))))))))))))))) (fun _ => rfl) fun ys65 => (j_anil (j_cbop (ra_cons rd_w ra_nil) (x_len (τ := Int)) (j_fz fz_b (j_ist rfl (j_tup (j_dcons (j_var rfl (j_fz (fz_d rfl) (j_dcons (j_var rfl (j_fz (fz_d rfl) (j_dnil (j_tup2 (toD ((x47, x61) : (Int × Int))) rfl rfl (j_tputop (κ := (Int × Int)) (υ := Int) rfl rd_b fun v66 => (j_nil (l := [1, 1, 1, 1, 0, 0, 0]) rfl rfl)))))))))))))))))))))))))))))))))))))) fun s67 => (j_nil (l := [1, 1, 1, 0, 0, 0, 0]) rfl rfl))))))))))))))))) fun s68 => (j_last (j_re (Γ' := [some (.d (toD (poll : (List (List Int))))), some (.d (PyData.list ((ys3 : (List (List (Int × Int)))).map (fun p : (List (Int × Int)) => (dD (p : (List (Int × Int)))))))), some (.rs 2 (dD (s68 : (List ((Int × Int) × Int))))), none, none, none, none]) rfl (j_ret (j_var rfl (j_rets (l := [0, 0, 0, 0, 0, 0, 0]) rfl (fun _ => sl_id) rfl rfl))))))))))))))))))))) (fun a p hp => nomatch hp)
def m__law_cell_at (script : (List Int)) (k : Int) : R Int :=
  if (decide (k < (script.length : Int))) = true then
  (ob (atI script k) fun v1 =>
  .ok v1)
  else
  (.ok ((0 : Int)))
theorem sim__law_cell_at (script : (List Int)) (k : Int) : FnS h__law_cell_at [.sc script, .fr (toD (k : Int))] (m__law_cell_at script k) (fun a : Int => .d (toD (a : Int))) (fun a : Int => []) :=
  fn_mk (n := 0) (rv := fun a : Int => .d (toD (a : Int))) (ss := [.sc script, (.d (toD (k : Int)))]) (Γe := fun a : Int => [none, none]) rfl (.cons rfl (.cons rfl All2.nil)) rfl
  (j_if (j_test (j_bin (j_var rfl (j_scLen (j_var rfl (j_scLen2  rfl (j_op (rd_d rfl) rd_b x_lt (j_bool rd_b (j_ite (j_ret (j_scIx (j_var rfl (j_var rfl (j_scIx2 rfl (rd_d rfl) fun v1 => (j_retb (l := [0, 0]) sl_d rfl rfl)))))) (j_seqNil (j_last (j_ret (j_c (j_retb (l := [0, 0]) sl_d rfl rfl))))))))))))))) (fun a p hp => nomatch hp)
def m__law_copied (orders : (List (List Int))) : R ((List (List Int))) :=
  ob (lcP (fun (x1 : (List Int)) => true) (fun (x1 : (List Int)) => x1) orders) fun ys2 =>
  .ok ys2
theorem sim__law_copied (orders : (List (List Int))) : FnS h__law_copied [.fr (toD (orders : (List (List Int))))] (m__law_copied orders) (fun a : (List (List Int)) => .o (toD (a : (List (List Int))))) (fun a : (List (List Int)) => []) :=
  fn_mk (n := 1) (rv := fun a : (List (List Int)) => .o (toD (a : (List (List Int))))) (ss := [(.d (toD (orders : (List (List Int)))))]) (Γe := fun a : (List (List Int)) => [none, none]) rfl (.cons rfl All2.nil) rfl
  (j_last (j_ret (j_lc (j_iSeq (j_var rfl (j_it (fz_d rfl) rfl (j_lcP (Γs := [some (.d (toD (orders : (List (List Int))))), none]) (l := [1, 0]) (D := toD) (E := toD) (xr := fun a => toD a) (p := fun (x1 : (List Int)) => true) (q := fun (x1 : (List Int)) => x1) rfl rfl (fun x1 => (j_gN (j_tt (j_cb (j_acons (j_var rfl (j_anil (j_cbop (ra_cons (rd_d rfl) ra_nil) (x_list (τ := Int)) (j_kf (l := [1, 0]) fz_w rfl rfl))))))))) (fun _ => rfl) fun ys2 => (j_retb (l := [0, 0]) sl_o rfl rfl)))))))) (fun a p hp => nomatch hp)
def m__law_stir (cell : Int) (k : Int) : R Int :=
  ob (mulI ((((((cell % (2147483629 : Int)) + ((9973 : Int) * k)) + (5 : Int)) * (48271 : Int)) % (2147483647 : Int))) ((((((cell % (2147483629 : Int)) + ((9973 : Int) * k)) + (5 : Int)) * (48271 : Int)) % (2147483647 : Int)))) fun v1 =>
  .ok ((((((v1 % (2147483587 : Int)) + ((7919 : Int) * k)) * (16807 : Int)) % (2147483563 : Int)) / (8 : Int)))
theorem sim__law_stir (cell : Int) (k : Int) : FnS h__law_stir [.fr (toD (cell : Int)), .fr (toD (k : Int))] (m__law_stir cell k) (fun a : Int => .d (toD (a : Int))) (fun a : Int => []) :=
  fn_mk (n := 1) (rv := fun a : Int => .d (toD (a : Int))) (ss := [(.d (toD (cell : Int))), (.d (toD (k : Int)))]) (Γe := fun a : Int => [none, none, none]) rfl (.cons rfl (.cons rfl All2.nil)) rfl
  (j_asg (j_bin (j_bin (j_bin (j_bin (j_bin (j_var rfl (j_c (j_op (rd_d rfl) rd_b (x_mod (by decide)) (j_bin (j_c (j_var rfl (j_op rd_b (rd_d rfl) (x_mul (cmul_l (by decide))) (j_op rd_b rd_b x_add (j_c (j_op rd_b rd_b x_add (j_c (j_op rd_b rd_b (x_mul (cmul_r (by decide))) (j_c (j_op rd_b rd_b (x_mod (by decide)) (j_fzb (fzb_of fz_b) (j_setD (j_asg (j_bin (j_bin (j_var rfl (j_var rfl (j_opR (rd_d rfl) (rd_d rfl) x_mulR fun v1 => (j_c (j_op rd_b rd_b (x_mod (by decide)) (j_fzb (fzb_of fz_b) (j_setD (j_last (j_ret (j_bin (j_bin (j_bin (j_bin (j_var rfl (j_bin (j_c (j_var rfl (j_op rd_b (rd_d rfl) (x_mul (cmul_l (by decide))) (j_op (rd_d rfl) rd_b x_add (j_c (j_op rd_b rd_b (x_mul (cmul_r (by decide))) (j_c (j_op rd_b rd_b (x_mod (by decide)) (j_c (j_op rd_b rd_b (x_fdiv (cfdiv_r (by decide))) (j_retb (l := [0, 0, 0]) sl_d rfl rfl))))))))))))))))))))))))))))))))))))))))))))))))))) (fun a p hp => nomatch hp)
def m__law_deck (cell : Int) (many : Int) : R ((List Int)) :=
  R.bind (ob (rg1 many) fun xs1 =>
  foldM (fun (s8 : ((List Int) × Int)) (x9 : Int) =>
  R.bind (m__law_stir cell x9) fun v10 =>
  R.bind (if (decide (((10 : Int) ^ ((18 : Int)).toNat) ≤ cell)) = true then
  (.ok ((s8.2 % (720720 : Int))))
  else
  (.ok v10)) fun (s11 : Int) =>
  ob (appL s8.1 s11) fun v12 =>
  .ok ((v12, (s8.2 / (720720 : Int))))) xs1 ((([] : (List Int)), cell))) fun (s13 : ((List Int) × Int)) =>
  .ok ((s13.1.reverse))
theorem sim__law_deck (cell : Int) (many : Int) : FnS h__law_deck [.fr (toD (cell : Int)), .fr (toD (many : Int))] (m__law_deck cell many) (fun a : (List Int) => .o (toD (a : (List Int)))) (fun a : (List Int) => []) :=
  fn_mk (n := 4) (rv := fun a : (List Int) => .o (toD (a : (List Int)))) (ss := [(.d (toD (cell : Int))), (.d (toD (many : Int)))]) (Γe := fun a : (List Int) => [none, none, none, none, none, none]) rfl (.cons rfl (.cons rfl All2.nil)) rfl
  (j_re (Γ' := [some (.d (toD (cell : Int))), some (.d (toD (many : Int))), none, none, none, none]) rfl (j_own (j_lst (j_dnil (j_lst2 (toD (([] : (List Int)) : (List Int))) rfl rfl (j_ownb (j_setO (j_re (Γ' := [some (.d (toD (cell : Int))), some (.d (toD (many : Int))), some (.o (toD (([] : (List Int)) : (List Int)))), none, none, none]) rfl (j_asg (j_var rfl (j_fzb (fzb_of (fz_d rfl)) (j_setD (j_re (Γ' := [some (.d (toD (cell : Int))), some (.d (toD (many : Int))), some (.o (toD (([] : (List Int)) : (List Int)))), some (.d (toD (cell : Int))), none, none]) rfl (j_seq (Γs := fun (s8 : ((List Int) × Int)) => [some (.d (toD (cell : Int))), some (.d (toD (many : Int))), some (.o (toD (s8.1 : (List Int)))), some (.d (toD (s8.2 : Int))), none, none]) (j_sFor (j_iRg1 (j_var rfl (j_rg1 (rd_d rfl) fun xs1 => (j_for (l := [1, 1, 1, 1, 0, 0]) (D := toD) (Γs := fun (s8 : ((List Int) × Int)) => [some (.d (toD (cell : Int))), some (.d (toD (many : Int))), some (.o (toD (s8.1 : (List Int)))), some (.d (toD (s8.2 : Int))), none, none]) ((([] : (List Int)), cell)) rfl (fun _ => rfl) fun s8 x9 => (j_gN (j_re (Γ' := [some (.d (toD (cell : Int))), some (.d (toD (many : Int))), some (.o (toD (s8.1 : (List Int)))), some (.d (toD (s8.2 : Int))), some (.d (toD (x9 : Int))), none]) rfl (j_asg (j_callP (j_aP (j_var rfl (j_aPs (j_aP (j_var rfl (j_aPs (j_anil (j_callPop rfl (la_d rfl (la_d rfl la_nil)) rfl (sim__law_stir cell x9) (fun _ => rfl) fun v10 => (j_fzb (fzb_of fz_b) (j_setD (j_re (Γ' := [some (.d (toD (cell : Int))), some (.d (toD (many : Int))), some (.o (toD (s8.1 : (List Int)))), some (.d (toD (s8.2 : Int))), some (.d (toD (x9 : Int))), some (.d (toD (v10 : Int)))]) rfl (j_seq (Γs := fun (s11 : Int) => [some (.d (toD (cell : Int))), some (.d (toD (many : Int))), some (.o (toD (s8.1 : (List Int)))), some (.d (toD (s8.2 : Int))), some (.d (toD (x9 : Int))), some (.d (toD (s11 : Int)))]) (j_if1 (j_test (j_bin (j_var rfl (j_bin (j_c (j_c (j_op rd_b rd_b (x_pow (by decide)) (j_op (rd_d rfl) rd_b x_ge (j_bool rd_b (j_ite (j_last (j_re (Γ' := [some (.d (toD (cell : Int))), some (.d (toD (many : Int))), some (.o (toD (s8.1 : (List Int)))), some (.d (toD (s8.2 : Int))), some (.d (toD (x9 : Int))), some (.d (toD (v10 : Int)))]) rfl (j_asg (j_bin (j_var rfl (j_c (j_op (rd_d rfl) rd_b (x_mod (by decide)) (j_fzb (fzb_of fz_b) (j_setD (j_nil (l := [1, 1, 1, 1, 1, 1]) rfl rfl)))))))))) (j_nil (l := [1, 1, 1, 1, 1, 1]) rfl rfl)))))))))))) fun s11 => (j_re (Γ' := [some (.d (toD (cell : Int))), some (.d (toD (many : Int))), some (.o (toD (s8.1 : (List Int)))), some (.d (toD (s8.2 : Int))), some (.d (toD (x9 : Int))), some (.d (toD (s11 : Int)))]) rfl (j_asg (j_bin (j_var rfl (j_c (j_op (rd_d rfl) rd_b (x_fdiv (cfdiv_r (by decide))) (j_fzb (fzb_of fz_b) (j_setD (j_last (j_re (Γ' := [some (.d (toD (cell : Int))), some (.d (toD (many : Int))), some (.o (toD (s8.1 : (List Int)))), some (.d (toD ((s8.2 / (720720 : Int)) : Int))), some (.d (toD (x9 : Int))), some (.d (toD (s11 : Int)))]) rfl (j_expr (j_mth (j_chk rfl rfl (j_dcons (j_var rfl (j_fz (fz_d rfl) (j_dnil (j_mthopR (z := fun _ => .fr .none) (es := fun a => a.map toD) (y := fun a => toD a) rfl (x_app (τ := Int)) (fun _ => rfl) fun v12 => (j_nil (l := [1, 1, 1, 1, 0, 0]) rfl rfl)))))))))))))))))))))))))))))))))))))))) fun s13 => (j_last (j_re (Γ' := [some (.d (toD (cell : Int))), some (.d (toD (many : Int))), some (.o (toD (s13.1 : (List Int)))), some (.d (toD (s13.2 : Int))), none, none]) rfl (j_ret (j_un (j_var rfl (j_unop (rd_o rfl) (x_rev (τ := Int)) (j_retb (l := [0, 0, 0, 0, 0, 0]) sl_o rfl rfl))))))))))))))))))))) (fun a p hp => nomatch hp)
def m__law_next (deck : (List Int)) : R ((Int × (List Int))) :=
  R.bind (if (decide ((deck.length : Int) = (1 : Int))) = true then
  (ob (atI deck ((0 : Int))) fun v7 =>
  R.bind (m__law_stir v7 ((7 : Int))) fun v8 =>
  ob (atI deck ((0 : Int))) fun v9 =>
  ob (mulI v8 ((b2i ((decide ((0 : Int) < v9)))))) fun v10 =>
  ob (insL deck ((0 : Int)) v10) fun v11 =>
  .ok v11)
  else
  (.ok deck)) fun (s6 : (List Int)) =>
  ob (popL s6) fun v12 =>
  .ok ((v12.1, v12.2))
theorem sim__law_next (deck : (List Int)) : FnS h__law_next [bow (toD (deck : (List Int)))] (m__law_next deck) (fun a : (Int × (List Int)) => .d (toD (a.1 : Int))) (fun a : (Int × (List Int)) => [(0, (.o (toD (a.2 : (List Int)))))]) :=
  fn_mk (n := 0) (rv := fun a : (Int × (List Int)) => .d (toD (a.1 : Int))) (ss := [(.o (toD (deck : (List Int))))]) (Γe := fun a : (Int × (List Int)) => [some (.o (toD (a.2 : (List Int))))]) rfl (.cons sl_o All2.nil) rfl
  (j_seq (Γs := fun (s6 : (List Int)) => [some (.o (toD (s6 : (List Int))))]) (j_if1 (j_test (j_bin (j_cb (j_acons (j_var rfl (j_anil (j_cbop (ra_cons (rd_o rfl) ra_nil) (x_len (τ := Int)) (j_c (j_op rd_b rd_b (x_eq (τ := Int)) (j_bool rd_b (j_ite (j_last (j_expr (j_mth (j_chk rfl rfl (j_dcons (j_c (j_fz fz_b (j_dcons (j_bin (j_callP (j_aP (j_bin (j_var rfl (j_c (j_opR (rd_o rfl) rd_b (x_ix (τ := Int)) fun v7 => (j_aPb (j_aP (j_c (j_aPb (j_anil (j_callPop rfl (la_b (la_b la_nil)) rfl (sim__law_stir v7 ((7 : Int))) (fun _ => rfl) fun v8 => (j_cb (j_acons (j_bin (j_bin (j_var rfl (j_c (j_opR (rd_o rfl) rd_b (x_ix (τ := Int)) fun v9 => (j_c (j_op rd_b rd_b x_gt (j_anil (j_cbop (ra_cons rd_b ra_nil) x_intB (j_opR rd_b rd_b x_mulR fun v10 => (j_fz fz_b (j_dnil (j_mthopR (z := fun _ => .fr .none) (es := fun a => a.map toD) (y := fun a => toD a) rfl (x_ins (τ := Int)) (fun _ => rfl) fun v11 => (j_nil (l := [1]) rfl rfl))))))))))))))))))))))))))))))))))))) (j_nil (l := [1]) rfl rfl))))))))))))) fun s6 => (j_last (j_ret (j_mth (j_chk rfl rfl (j_dnil (j_mthopR (z := fun a => .fr (toD a.1)) (es := fun a => a.2.map toD) (y := fun a => toD a.2) rfl (x_pop (τ := Int)) (fun _ => rfl) fun v12 => (j_retb (l := [1]) sl_d rfl rfl)))))))) (fun a p hp => by
    simp only [List.mem_cons, List.not_mem_nil, or_false] at hp
    subst hp; rfl)
def m__law_near (deck : (List Int)) (order : (List Int)) : R (((List Int) × (List Int))) :=
  R.bind (m__law_next deck) fun v1 =>
  R.bind (R.bind (m__law_next v1.2) fun v2 =>
  ob (atI ([(1 : Int), (1 : Int), (2 : Int), (4 : Int)]) ((v2.1 % (4 : Int)))) fun v3 =>
  ob (mulI v3 ((b2i ((decide ((1 : Int) < (order.length : Int))))))) fun v4 =>
  ob (rg1 v4) fun xs5 =>
  foldM (fun (s50 : ((List Int) × (List Int))) (x51 : Int) =>
  R.bind (m__law_next s50.1) fun v52 =>
  ob (modI v52.1 (((s50.2.length : Int) - (1 : Int)))) fun v53 =>
  R.bind (m__law_next v52.2) fun v54 =>
  ob (modI v54.1 ((s50.2.length : Int))) fun v55 =>
  ob (atI ([(v53 + (1 : Int)), v55, (v53 + (1 : Int))]) ((v1.1 % (3 : Int)))) fun v56 =>
  R.bind (if (decide ((v1.1 % (3 : Int)) < (2 : Int))) = true then
  (ob (atI s50.2 v56) fun v66 =>
  ob (atI s50.2 v53) fun v67 =>
  ob (setI s50.2 v53 v66) fun v68 =>
  ob (setI v68 v56 v67) fun v69 =>
  .ok ((v54.2, v69)))
  else
  (R.bind (m__law_next v54.2) fun v70 =>
  ob (modI v70.1 ((s50.2.length : Int))) fun v71 =>
  ob (popI s50.2 v53) fun v72 =>
  ob (insL v72.2 v71 v72.1) fun v73 =>
  .ok ((v70.2, v73)))) fun (s65 : ((List Int) × (List Int))) =>
  .ok ((s65.1, s65.2))) xs5 ((v2.2, order))) fun (s74 : ((List Int) × (List Int))) =>
  .ok ((s74.2, s74.1))
theorem sim__law_near (deck : (List Int)) (order : (List Int)) : FnS h__law_near [bow (toD (deck : (List Int))), .fr (toD (order : (List Int)))] (m__law_near deck order) (fun a : ((List Int) × (List Int)) => .o (toD (a.1 : (List Int)))) (fun a : ((List Int) × (List Int)) => [(0, (.o (toD (a.2 : (List Int)))))]) :=
  fn_mk (n := 5) (rv := fun a : ((List Int) × (List Int)) => .o (toD (a.1 : (List Int)))) (ss := [(.o (toD (deck : (List Int)))), (.d (toD (order : (List Int))))]) (Γe := fun a : ((List Int) × (List Int)) => [some (.o (toD (a.2 : (List Int)))), none, none, none, none, none, none]) rfl (.cons sl_o (.cons rfl All2.nil)) rfl
  (j_re (Γ' := [some (.o (toD (deck : (List Int)))), some (.d (toD (order : (List Int)))), none, none, none, none, none]) rfl (j_own (j_cb (j_acons (j_var rfl (j_anil (j_cbop (ra_cons (rd_d rfl) ra_nil) (x_list (τ := Int)) (j_ownb (j_setO (j_re (Γ' := [some (.o (toD (deck : (List Int)))), some (.d (toD (order : (List Int)))), some (.o (toD (order : (List Int)))), none, none, none, none]) rfl (j_asg (j_bin (j_call (j_aM rfl (j_anil (j_callF rfl (ba_o rfl ba_nil) (sim__law_next deck) (fun _ => rfl) (fun _ => rfl) fun v1 => (j_c (j_op rd_b rd_b (x_mod (by decide)) (j_fzb (fzb_of fz_b) (j_setD (j_re (Γ' := [some (.o (toD (v1.2 : (List Int)))), some (.d (toD (order : (List Int)))), some (.o (toD (order : (List Int)))), some (.d (toD ((v1.1 % (3 : Int)) : Int))), none, none, none]) rfl (j_seq (Γs := fun (s50 : ((List Int) × (List Int))) => [some (.o (toD (s50.1 : (List Int)))), some (.d (toD (order : (List Int)))), some (.o (toD (s50.2 : (List Int)))), some (.d (toD ((v1.1 % (3 : Int)) : Int))), none, none, none]) (j_sFor (j_iRg1 (j_bin (j_bin (j_lst (j_dcons (j_c (j_fz fz_b (j_dcons (j_c (j_fz fz_b (j_dcons (j_c (j_fz fz_b (j_dcons (j_c (j_fz fz_b (j_dnil (j_lst2 (toD ([(1 : Int), (1 : Int), (2 : Int), (4 : Int)] : (List Int))) rfl rfl (j_bin (j_call (j_aM rfl (j_anil (j_callF rfl (ba_o rfl ba_nil) (sim__law_next v1.2) (fun _ => rfl) (fun _ => rfl) fun v2 => (j_c (j_op rd_b rd_b (x_mod (by decide)) (j_opR rd_w rd_b (x_ix (τ := Int)) fun v3 => (j_cb (j_acons (j_bin (j_cb (j_acons (j_var rfl (j_anil (j_cbop (ra_cons (rd_o rfl) ra_nil) (x_len (τ := Int)) (j_c (j_op rd_b rd_b x_gt (j_anil (j_cbop (ra_cons rd_b ra_nil) x_intB (j_opR rd_b rd_b x_mulR fun v4 => (j_rg1 rd_b fun xs5 => (j_for (l := [1, 1, 1, 1, 0, 0, 0]) (D := toD) (Γs := fun (s50 : ((List Int) × (List Int))) => [some (.o (toD (s50.1 : (List Int)))), some (.d (toD (order : (List Int)))), some (.o (toD (s50.2 : (List Int)))), some (.d (toD ((v1.1 % (3 : Int)) : Int))), none, none, none]) ((v2.2, order)) rfl (fun _ => rfl) fun s50 x51 => (j_gN (j_re (Γ' := [some (.o (toD (s50.1 : (List Int)))), some (.d (toD (order : (List Int)))), some (.o (toD (s50.2 : (List Int)))), some (.d (toD ((v1.1 % (3 : Int)) : Int))), some (.d (toD (x51 : Int))), none, none]) rfl (j_asg (j_bin (j_call (j_aM rfl (j_anil (j_callF rfl (ba_o rfl ba_nil) (sim__law_next s50.1) (fun _ => rfl) (fun _ => rfl) fun v52 => (j_bin (j_cb (j_acons (j_var rfl (j_anil (j_cbop (ra_cons (rd_o rfl) ra_nil) (x_len (τ := Int)) (j_c (j_op rd_b rd_b x_sub (j_opR rd_b rd_b x_modR fun v53 => (j_fzb (fzb_of fz_b) (j_setD (j_re (Γ' := [some (.o (toD (v52.2 : (List Int)))), some (.d (toD (order : (List Int)))), some (.o (toD (s50.2 : (List Int)))), some (.d (toD ((v1.1 % (3 : Int)) : Int))), some (.d (toD (x51 : Int))), some (.d (toD (v53 : Int))), none]) rfl (j_asg (j_bin (j_lst (j_dcons (j_bin (j_var rfl (j_c (j_op (rd_d rfl) rd_b x_add (j_fz fz_b (j_dcons (j_bin (j_call (j_aM rfl (j_anil (j_callF rfl (ba_o rfl ba_nil) (sim__law_next v52.2) (fun _ => rfl) (fun _ => rfl) fun v54 => (j_cb (j_acons (j_var rfl (j_anil (j_cbop (ra_cons (rd_o rfl) ra_nil) (x_len (τ := Int)) (j_opR rd_b rd_b x_modR fun v55 => (j_fz fz_b (j_dcons (j_bin (j_var rfl (j_c (j_op (rd_d rfl) rd_b x_add (j_fz fz_b (j_dnil (j_lst2 (toD ([(v53 + (1 : Int)), v55, (v53 + (1 : Int))] : (List Int))) rfl rfl (j_var rfl (j_opR rd_w (rd_d rfl) (x_ix (τ := Int)) fun v56 => (j_fzb (fzb_of fz_b) (j_setD (j_last (j_re (Γ' := [some (.o (toD (v54.2 : (List Int)))), some (.d (toD (order : (List Int)))), some (.o (toD (s50.2 : (List Int)))), some (.d (toD ((v1.1 % (3 : Int)) : Int))), some (.d (toD (x51 : Int))), some (.d (toD (v53 : Int))), some (.d (toD (v56 : Int)))]) rfl (j_seq (Γs := fun (s65 : ((List Int) × (List Int))) => [some (.o (toD (s65.1 : (List Int)))), some (.d (toD (order : (List Int)))), some (.o (toD (s65.2 : (List Int)))), some (.d (toD ((v1.1 % (3 : Int)) : Int))), some (.d (toD (x51 : Int))), some (.d (toD (v53 : Int))), some (.d (toD (v56 : Int)))]) (j_if1 (j_test (j_bin (j_var rfl (j_c (j_op (rd_d rfl) rd_b x_lt (j_bool rd_b (j_ite (j_last (j_re (Γ' := [some (.o (toD (v54.2 : (List Int)))), some (.d (toD (order : (List Int)))), some (.o (toD (s50.2 : (List Int)))), some (.d (toD ((v1.1 % (3 : Int)) : Int))), some (.d (toD (x51 : Int))), some (.d (toD (v53 : Int))), some (.d (toD (v56 : Int)))]) rfl (j_put2 (j_dcons (j_bin (j_var rfl (j_var rfl (j_opR (rd_o rfl) (rd_d rfl) (x_ix (τ := Int)) fun v66 => (j_fz fz_b (j_dcons (j_bin (j_var rfl (j_var rfl (j_opR (rd_o rfl) (rd_d rfl) (x_ix (τ := Int)) fun v67 => (j_fz fz_b (j_dnil (j_has rfl (j_var rfl (j_putI (y := fun a => toD a) rfl (rd_d rfl) (x_set (τ := Int) _) fun v68 => (j_has rfl (j_var rfl (j_putI (y := fun a => toD a) rfl (rd_d rfl) (x_set (τ := Int) _) fun v69 => (j_nil (l := [1, 1, 1, 1, 1, 1, 1]) rfl rfl))))))))))))))))))))))) (j_last (j_re (Γ' := [some (.o (toD (v54.2 : (List Int)))), some (.d (toD (order : (List Int)))), some (.o (toD (s50.2 : (List Int)))), some (.d (toD ((v1.1 % (3 : Int)) : Int))), some (.d (toD (x51 : Int))), some (.d (toD (v53 : Int))), some (.d (toD (v56 : Int)))]) rfl (j_expr (j_mth (j_chk rfl rfl (j_dcons (j_bin (j_call (j_aM rfl (j_anil (j_callF rfl (ba_o rfl ba_nil) (sim__law_next v54.2) (fun _ => rfl) (fun _ => rfl) fun v70 => (j_cb (j_acons (j_var rfl (j_anil (j_cbop (ra_cons (rd_o rfl) ra_nil) (x_len (τ := Int)) (j_opR rd_b rd_b x_modR fun v71 => (j_fz fz_b (j_dcons (j_mth (j_chk rfl rfl (j_dcons (j_var rfl (j_fz (fz_d rfl) (j_dnil (j_mthopR (z := fun a => .fr (toD a.1)) (es := fun a => a.2.map toD) (y := fun a => toD a.2) rfl (x_popI (τ := Int)) (fun _ => rfl) fun v72 => (j_fz fz_b (j_dnil (j_mthopR (z := fun _ => .fr .none) (es := fun a => a.map toD) (y := fun a => toD a) rfl (x_ins (τ := Int)) (fun _ => rfl) fun v73 => (j_nil (l := [1, 1, 1, 1, 1, 1, 1]) rfl rfl)))))))))))))))))))))))))))))))))))))) fun s65 => (j_nil (l := [1, 1, 1, 1, 0, 0, 0]) rfl rfl)))))))))))))))))))))))))))))))))))))))))))))))))))))))))))))))))))))))))))))))))))))))))))))))))))) fun s74 => (j_last (j_re (Γ' := [some (.o (toD (s74.1 : (List Int)))), some (.d (toD (order : (List Int)))), some (.o (toD (s74.2 : (List Int)))), some (.d (toD ((v1.1 % (3 : Int)) : Int))), none, none, none]) rfl (j_ret (j_var rfl (j_rets (l := [1, 0, 0, 0, 0, 0, 0]) rfl (fun _ => sl_id) rfl rfl))))))))))))))))))))))))))) (fun a p hp => by
    simp only [List.mem_cons, List.not_mem_nil, or_false] at hp
    subst hp; rfl)
def m__law_order (deck : (List Int)) (n : Int) : R (((List Int) × (List Int))) :=
  ob (lrg1 n) fun v1 =>
  ob (rg1 n) fun xs2 =>
  R.bind (lcS (fun (s10 : ((List Int) × (List Int))) (x3 : Int) => R.calm (R.bind (m__law_next s10.1) fun v11 =>
  ob (modI v11.1 ((s10.2.length : Int))) fun v12 =>
  ob (popI s10.2 v12) fun v13 =>
  .ok (some v13.1, (v11.2, v13.2)))) xs2 [] (deck, v1)) fun ys14 =>
  .ok ((ys14.1, ys14.2.1))
theorem sim__law_order (deck : (List Int)) (n : Int) : FnS h__law_order [bow (toD (deck : (List Int))), .fr (toD (n : Int))] (m__law_order deck n) (fun a : ((List Int) × (List Int)) => .o (toD (a.1 : (List Int)))) (fun a : ((List Int) × (List Int)) => [(0, (.o (toD (a.2 : (List Int)))))]) :=
  fn_mk (n := 2) (rv := fun a : ((List Int) × (List Int)) => .o (toD (a.1 : (List Int)))) (ss := [(.o (toD (deck : (List Int)))), (.d (toD (n : Int)))]) (Γe := fun a : ((List Int) × (List Int)) => [some (.o (toD (a.2 : (List Int)))), none, none, none]) rfl (.cons sl_o (.cons rfl All2.nil)) rfl
  (j_own (j_lr1 (j_var rfl (j_lr1op (rd_d rfl)  fun v1 => (j_ownb (j_setO (j_last (j_ret (j_lc (j_iRg1 (j_var rfl (j_rg1 (rd_d rfl) fun xs2 => (j_lcG (Γs := fun (s10 : ((List Int) × (List Int))) => [some (.o (toD (s10.1 : (List Int)))), some (.d (toD (n : Int))), some (.o (toD (s10.2 : (List Int)))), none]) (l := [1, 1, 1, 0]) (D := toD) (E := toD) (xr := fun a => toD a) (deck, v1) rfl (fun _ => rfl) (fun s10 x3 => (j_gN (j_tt (j_mth (j_chk rfl rfl (j_dcons (j_bin (j_call (j_aM rfl (j_anil (j_callF rfl (ba_o rfl ba_nil) (sim__law_next s10.1) (fun _ => rfl) (fun _ => rfl) fun v11 => (j_cb (j_acons (j_var rfl (j_anil (j_cbop (ra_cons (rd_o rfl) ra_nil) (x_len (τ := Int)) (j_opR rd_b rd_b x_modR fun v12 => (j_fz fz_b (j_dnil (j_mthopR (z := fun a => .fr (toD a.1)) (es := fun a => a.2.map toD) (y := fun a => toD a.2) rfl (x_popI (τ := Int)) (fun _ => rfl) fun v13 => (j_kf (l := [1, 1, 1, 0]) fz_b rfl rfl))))))))))))))))))))) (fun _ => rfl) fun ys14 => (j_retb (l := [1, 0, 0, 0]) sl_o rfl rfl)))))))))))))) (fun a p hp => by
    simp only [List.mem_cons, List.not_mem_nil, or_false] at hp
    subst hp; rfl)
def m__law_poll (deck : (List Int)) (n : Int) (most : Int) : R (((List (List Int)) × (List Int))) :=
  R.bind (m__law_order deck n) fun v1 =>
  R.bind (m__law_next v1.2) fun v2 =>
  R.bind (R.bind (m__law_next v2.2) fun v3 =>
  ob (modI v3.1 most) fun v4 =>
  R.bind (m__law_next v3.2) fun v5 =>
  ob (modI v5.1 ((min2 most ((4 : Int))))) fun v6 =>
  R.bind (m__law_next v5.2) fun v7 =>
  ob (atI ([v4, (most - (1 : Int)), v6]) ((v7.1 % (3 : Int)))) fun v8 =>
  ob (rg1 v8) fun xs9 =>
  foldM (fun (s36 : ((List Int) × (List (List Int)))) (x37 : Int) =>
  R.bind (m__law_next s36.1) fun v38 =>
  ob (modI v38.1 n) fun v39 =>
  R.bind (m__law_near v38.2 v1.1) fun v40 =>
  R.bind (m__law_order v40.2 n) fun v41 =>
  ob (addL ((cutD v1.1 (some v39) none)) ((cutD v1.1 none (some v39)))) fun v42 =>
  R.bind (m__law_next v41.2) fun v43 =>
  ob (modI v43.1 ((s36.2.length : Int))) fun v44 =>
  ob (atI s36.2 v44) fun v45 =>
  ob (appL ([v40.1, v41.1, v42, (v1.1.reverse)]) v45) fun v46 =>
  R.bind (m__law_next v43.2) fun v47 =>
  ob (atI ([(0 : Int), (1 : Int), (2 : Int), (v47.1 % (5 : Int))]) ((v2.1 % (4 : Int)))) fun v48 =>
  ob (atI v46 v48) fun v49 =>
  ob (appL s36.2 v49) fun v50 =>
  .ok ((v47.2, v50))) xs9 ((v7.2, [v1.1]))) fun (s51 : ((List Int) × (List (List Int)))) =>
  .ok ((s51.2, s51.1))
theorem sim__law_poll (deck : (List Int)) (n : Int) (most : Int) : FnS h__law_poll [bow (toD (deck : (List Int))), .fr (toD (n : Int)), .fr (toD (most : Int))] (m__law_poll deck n most) (fun a : ((List (List Int)) × (List Int)) => .o (toD (a.1 : (List (List Int))))) (fun a : ((List (List Int)) × (List Int)) => [(0, (.o (toD (a.2 : (List Int)))))]) :=
  fn_mk (n := 6) (rv := fun a : ((List (List Int)) × (List Int)) => .o (toD (a.1 : (List (List Int))))) (ss := [(.o (toD (deck : (List Int)))), (.d (toD (n : Int))), (.d (toD (most : Int)))]) (Γe := fun a : ((List (List Int)) × (List Int)) => [some (.o (toD (a.2 : (List Int)))), none, none, none, none, none, none, none, none]) rfl (.cons sl_o (.cons rfl (.cons rfl All2.nil))) rfl
  (j_re (Γ' := [some (.o (toD (deck : (List Int)))), some (.d (toD (n : Int))), some (.d (toD (most : Int))), none, none, none, none, none, none]) rfl (j_asg (j_call (j_aM rfl (j_aF (j_var rfl (j_fzb (fzb_of (fz_d rfl)) (j_anil (j_callO rfl (ba_o rfl (ba_b ba_nil)) (sim__law_order deck n) (fun _ => rfl) fun v1 => (j_fzb (fzb_of fz_w) (j_setD (j_re (Γ' := [some (.o (toD (v1.2 : (List Int)))), some (.d (toD (n : Int))), some (.d (toD (most : Int))), some (.d (toD (v1.1 : (List Int)))), none, none, none, none, none]) rfl (j_own (j_lst (j_dcons (j_var rfl (j_fz (fz_d rfl) (j_dnil (j_lst2 (toD ([v1.1] : (List (List Int)))) rfl rfl (j_ownb (j_setO (j_re (Γ' := [some (.o (toD (v1.2 : (List Int)))), some (.d (toD (n : Int))), some (.d (toD (most : Int))), some (.d (toD (v1.1 : (List Int)))), some (.o (toD ([v1.1] : (List (List Int))))), none, none, none, none]) rfl (j_asg (j_bin (j_call (j_aM rfl (j_anil (j_callF rfl (ba_o rfl ba_nil) (sim__law_next v1.2) (fun _ => rfl) (fun _ => rfl) fun v2 => (j_c (j_op rd_b rd_b (x_mod (by decide)) (j_fzb (fzb_of fz_b) (j_setD (j_re (Γ' := [some (.o (toD (v2.2 : (List Int)))), some (.d (toD (n : Int))), some (.d (toD (most : Int))), some (.d (toD (v1.1 : (List Int)))), some (.o (toD ([v1.1] : (List (List Int))))), some (.d (toD ((v2.1 % (4 : Int)) : Int))), none, none, none]) rfl (j_seq (Γs := fun (s36 : ((List Int) × (List (List Int)))) => [some (.o (toD (s36.1 : (List Int)))), some (.d (toD (n : Int))), some (.d (toD (most : Int))), some (.d (toD (v1.1 : (List Int)))), some (.o (toD (s36.2 : (List (List Int))))), some (.d (toD ((v2.1 % (4 : Int)) : Int))), none, none, none]) (j_sFor (j_iRg1 (j_bin (j_lst (j_dcons (j_bin (j_call (j_aM rfl (j_anil (j_callF rfl (ba_o rfl ba_nil) (sim__law_next v2.2) (fun _ => rfl) (fun _ => rfl) fun v3 => (j_var rfl (j_opR rd_b (rd_d rfl) x_modR fun v4 => (j_fz fz_b (j_dcons (j_bin (j_var rfl (j_c (j_op (rd_d rfl) rd_b x_sub (j_fz fz_b (j_dcons (j_bin (j_call (j_aM rfl (j_anil (j_callF rfl (ba_o rfl ba_nil) (sim__law_next v3.2) (fun _ => rfl) (fun _ => rfl) fun v5 => (j_cb (j_acons (j_var rfl (j_acons (j_c (j_anil (j_cbop (ra_cons (rd_d rfl) (ra_cons rd_b ra_nil)) x_min2 (j_opR rd_b rd_b x_modR fun v6 => (j_fz fz_b (j_dnil (j_lst2 (toD ([v4, (most - (1 : Int)), v6] : (List Int))) rfl rfl (j_bin (j_call (j_aM rfl (j_anil (j_callF rfl (ba_o rfl ba_nil) (sim__law_next v5.2) (fun _ => rfl) (fun _ => rfl) fun v7 => (j_c (j_op rd_b rd_b (x_mod (by decide)) (j_opR rd_w rd_b (x_ix (τ := Int)) fun v8 => (j_rg1 rd_b fun xs9 => (j_for (l := [1, 1, 1, 1, 1, 1, 0, 0, 0]) (D := toD) (Γs := fun (s36 : ((List Int) × (List (List Int)))) => [some (.o (toD (s36.1 : (List Int)))), some (.d (toD (n : Int))), some (.d (toD (most : Int))), some (.d (toD (v1.1 : (List Int)))), some (.o (toD (s36.2 : (List (List Int))))), some (.d (toD ((v2.1 % (4 : Int)) : Int))), none, none, none]) ((v7.2, [v1.1])) rfl (fun _ => rfl) fun s36 x37 => (j_gN (j_re (Γ' := [some (.o (toD (s36.1 : (List Int)))), some (.d (toD (n : Int))), some (.d (toD (most : Int))), some (.d (toD (v1.1 : (List Int)))), some (.o (toD (s36.2 : (List (List Int))))), some (.d (toD ((v2.1 % (4 : Int)) : Int))), some (.d (toD (x37 : Int))), none, none]) rfl (j_asg (j_bin (j_call (j_aM rfl (j_anil (j_callF rfl (ba_o rfl ba_nil) (sim__law_next s36.1) (fun _ => rfl) (fun _ => rfl) fun v38 => (j_var rfl (j_opR rd_b (rd_d rfl) x_modR fun v39 => (j_fzb (fzb_of fz_b) (j_setD (j_re (Γ' := [some (.o (toD (v38.2 : (List Int)))), some (.d (toD (n : Int))), some (.d (toD (most : Int))), some (.d (toD (v1.1 : (List Int)))), some (.o (toD (s36.2 : (List (List Int))))), some (.d (toD ((v2.1 % (4 : Int)) : Int))), some (.d (toD (x37 : Int))), some (.d (toD (v39 : Int))), none]) rfl (j_own (j_lst (j_dcons (j_call (j_aM rfl (j_aF (j_var rfl (j_fzb (fzb_of (fz_d rfl)) (j_anil (j_callO rfl (ba_o rfl (ba_b ba_nil)) (sim__law_near v38.2 v1.1) (fun _ => rfl) fun v40 => (j_fz fz_w (j_dcons (j_call (j_aM rfl (j_aF (j_var rfl (j_fzb (fzb_of (fz_d rfl)) (j_anil (j_callO rfl (ba_o rfl (ba_b ba_nil)) (sim__law_order v40.2 n) (fun _ => rfl) fun v41 => (j_fz fz_w (j_dcons (j_bin (j_sl (j_var rfl (j_osome (j_var rfl (j_int (rd_d rfl) (j_ono (j_slop (rd_d rfl) (x_sl (τ := Int)) (j_sl (j_var rfl (j_ono (j_osome (j_var rfl (j_int (rd_d rfl) (j_slop (rd_d rfl) (x_sl (τ := Int)) (j_opR rd_w rd_w (x_addL (τ := Int)) fun v42 => (j_fz fz_w (j_dcons (j_un (j_var rfl (j_unop (rd_d rfl) (x_rev (τ := Int)) (j_fz fz_w (j_dnil (j_lst2 (toD ([v40.1, v41.1, v42, (v1.1.reverse)] : (List (List Int)))) rfl rfl (j_ownb (j_setO (j_re (Γ' := [some (.o (toD (v41.2 : (List Int)))), some (.d (toD (n : Int))), some (.d (toD (most : Int))), some (.d (toD (v1.1 : (List Int)))), some (.o (toD (s36.2 : (List (List Int))))), some (.d (toD ((v2.1 % (4 : Int)) : Int))), some (.d (toD (x37 : Int))), some (.d (toD (v39 : Int))), some (.o (toD ([v40.1, v41.1, v42, (v1.1.reverse)] : (List (List Int)))))]) rfl (j_expr (j_mth (j_chk rfl rfl (j_dcons (j_cb (j_acons (j_bin (j_var rfl (j_bin (j_call (j_aM rfl (j_anil (j_callF rfl (ba_o rfl ba_nil) (sim__law_next v41.2) (fun _ => rfl) (fun _ => rfl) fun v43 => (j_cb (j_acons (j_var rfl (j_anil (j_cbop (ra_cons (rd_o rfl) ra_nil) (x_len (τ := (List Int))) (j_opR rd_b rd_b x_modR fun v44 => (j_opR (rd_o rfl) rd_b (x_ix (τ := (List Int))) fun v45 => (j_anil (j_cbop (ra_cons rd_b ra_nil) (x_list (τ := Int)) (j_fz fz_w (j_dnil (j_mthopR (z := fun _ => .fr .none) (es := fun a => a.map toD) (y := fun a => toD a) rfl (x_app (τ := (List Int))) (fun _ => rfl) fun v46 => (j_last (j_re (Γ' := [some (.o (toD (v43.2 : (List Int)))), some (.d (toD (n : Int))), some (.d (toD (most : Int))), some (.d (toD (v1.1 : (List Int)))), some (.o (toD (s36.2 : (List (List Int))))), some (.d (toD ((v2.1 % (4 : Int)) : Int))), some (.d (toD (x37 : Int))), some (.d (toD (v39 : Int))), some (.o (toD (v46 : (List (List Int)))))]) rfl (j_expr (j_mth (j_chk rfl rfl (j_dcons (j_bin (j_var rfl (j_bin (j_lst (j_dcons (j_c (j_fz fz_b (j_dcons (j_c (j_fz fz_b (j_dcons (j_c (j_fz fz_b (j_dcons (j_bin (j_call (j_aM rfl (j_anil (j_callF rfl (ba_o rfl ba_nil) (sim__law_next v43.2) (fun _ => rfl) (fun _ => rfl) fun v47 => (j_c (j_op rd_b rd_b (x_mod (by decide)) (j_fz fz_b (j_dnil (j_lst2 (toD ([(0 : Int), (1 : Int), (2 : Int), (v47.1 % (5 : Int))] : (List Int))) rfl rfl (j_var rfl (j_opR rd_w (rd_d rfl) (x_ix (τ := Int)) fun v48 => (j_opR (rd_o rfl) rd_b (x_ix (τ := (List Int))) fun v49 => (j_fz fz_b (j_dnil (j_mthopR (z := fun _ => .fr .none) (es := fun a => a.map toD) (y := fun a => toD a) rfl (x_app (τ := (List Int))) (fun _ => rfl) fun v50 => (j_nil (l := [1, 1, 1, 1, 1, 1, 0, 0, 0]) rfl rfl))))))))))))))))))))))))))))))))))))))))))))))))))))))))))))))))))))))))))))))))))))))))))))))))))))))))))))))))))))))))))))))))))))))))))))))))))))))))))))))))))))))))) fun s51 => (j_last (j_re (Γ' := [some (.o (toD (s51.1 : (List Int)))), some (.d (toD (n : Int))), some (.d (toD (most : Int))), some (.d (toD (v1.1 : (List Int)))), some (.o (toD (s51.2 : (List (List Int))))), some (.d (toD ((v2.1 % (4 : Int)) : Int))), none, none, none]) rfl (j_ret (j_var rfl (j_rets (l := [1, 0, 0, 0, 0, 0, 0, 0, 0]) rfl (fun _ => sl_id) rfl rfl))))))))))))))))))))))))))))))))))))))) (fun a p hp => by
    simp only [List.mem_cons, List.not_mem_nil, or_false] at hp
    subst hp; rfl)
def m__law_whole (thing : Int) : R Bool :=
  .ok ((true && (!false)))
theorem sim__law_whole (thing : Int) : FnS h__law_whole [.fr (toD (thing : Int))] (m__law_whole thing) (fun a : Bool => .d (toD (a : Bool))) (fun a : Bool => []) :=
  fn_mk (n := 0) (rv := fun a : Bool => .d (toD (a : Bool))) (ss := [(.d (toD (thing : Int)))]) (Γe := fun a : Bool => [none]) rfl (.cons rfl All2.nil) rfl
  (j_last (j_ret (j_andVP (j_isi (j_var rfl (j_isi2 (b := true) (rd_d rfl) rfl (j_ko (l := [1]) rd_b rfl rfl)))) (j_notV (j_isi (j_var rfl (j_isi2 (b := false) (rd_d rfl) rfl (j_bool rd_b (j_kob (l := [1]) rfl rfl)))))) (j_retb (l := [0]) sl_d rfl rfl)))) (fun a p hp => nomatch hp)
def m_ahead_in (poll : (List (List Int))) : R ((List (List Int))) :=
  ob (atI poll ((0 : Int))) fun v1 =>
  ob (rg1 ((v1.length : Int))) fun xs2 =>
  R.bind (lcM (fun (x3 : Int) => R.calm (ob (mulL ([(0 : Int)]) ((v1.length : Int))) fun v4 =>
  .ok (some v4))) xs2 []) fun ys5 =>
  R.bind (foldM (fun (s48 : (List (List Int))) (x49 : (List Int)) =>
  R.bind (foldM (fun (s62 : (List (List Int))) (x63 : (Int × Int)) =>
  R.bind (foldM (fun (s66 : (List (List Int))) (x67 : Int) =>
  ob (augLL s66 x63.2 x67 ((1 : Int))) fun v68 =>
  .ok v68) ((cutD x49 (some (x63.1 + (1 : Int))) none)) s62) fun (s69 : (List (List Int))) =>
  .ok s69) ((enumT 0 x49)) s48) fun (s70 : (List (List Int))) =>
  .ok s70) poll ys5) fun (s71 : (List (List Int))) =>
  .ok s71
theorem sim_ahead_in (poll : (List (List Int))) : FnS h_ahead_in [.fr (toD (poll : (List (List Int))))] (m_ahead_in poll) (fun a : (List (List Int)) => .t (trL (trL frD) (a : (List (List Int))))) (fun a : (List (List Int)) => []) :=
  fn_mk (n := 6) (rv := fun a : (List (List Int)) => .t (trL (trL frD) (a : (List (List Int))))) (ss := [(.d (toD (poll : (List (List Int)))))]) (Γe := fun a : (List (List Int)) => [none, none, none, none, none, none, none]) rfl (.cons rfl All2.nil) rfl
  (j_re (Γ' := [some (.d (toD (poll : (List (List Int))))), none, none, none, none, none, none]) rfl (j_asg (j_cb (j_acons (j_bin (j_var rfl (j_c (j_opR (rd_d rfl) rd_b (x_ix (τ := (List Int))) fun v1 => (j_anil (j_cbop (ra_cons rd_b ra_nil) (x_len (τ := Int)) (j_fzb (fzb_of fz_b) (j_setD (j_re (Γ' := [some (.d (toD (poll : (List (List Int))))), some (.d (toD ((v1.length : Int) : Int))), none, none, none, none, none]) rfl (j_ownT (j_lcT (j_iRg1 (j_var rfl (j_rg1 (rd_d rfl) fun xs2 => (j_lcTm (Γs := [some (.d (toD (poll : (List (List Int))))), some (.d (toD ((v1.length : Int) : Int))), none, none, none, none, none]) (l := [1, 1, 0, 0, 0, 0, 0]) (D := toD) (E := (trL frD)) rfl rfl (fun x3 => (j_gN (j_ttT (j_bin (j_lst (j_dcons (j_c (j_fz fz_b (j_dnil (j_lst2 (toD ([(0 : Int)] : (List Int))) rfl rfl (j_var rfl (j_opR rd_w (rd_d rfl) (x_mulL (τ := Int)) fun v4 => (j_kTb (l := [1, 1, 0, 0, 0, 0, 0]) (row_o.t _) rfl rfl))))))))))))) fun ys5 => (j_ownTb (t := (trL (trL frD) (ys5 : (List (List Int))))) rfl (j_re (Γ' := [some (.d (toD (poll : (List (List Int))))), some (.d (toD ((v1.length : Int) : Int))), some (.t (trL (trL frD) (ys5 : (List (List Int))))), none, none, none, none]) rfl (j_seq (Γs := fun (s48 : (List (List Int))) => [some (.d (toD (poll : (List (List Int))))), some (.d (toD ((v1.length : Int) : Int))), some (.t (trL (trL frD) (s48 : (List (List Int))))), none, none, none, none]) (j_sFor (j_iSeq (j_var rfl (j_it (fz_d rfl) rfl (j_for (l := [1, 1, 1, 0, 0, 0, 0]) (D := toD) (Γs := fun (s48 : (List (List Int))) => [some (.d (toD (poll : (List (List Int))))), some (.d (toD ((v1.length : Int) : Int))), some (.t (trL (trL frD) (s48 : (List (List Int))))), none, none, none, none]) ys5 rfl (fun _ => rfl) fun s48 x49 => (j_gN (j_last (j_re (Γ' := [some (.d (toD (poll : (List (List Int))))), some (.d (toD ((v1.length : Int) : Int))), some (.t (trL (trL frD) (s48 : (List (List Int))))), some (.d (toD (x49 : (List Int)))), none, none, none]) rfl (j_seq (Γs := fun (s62 : (List (List Int))) => [some (.d (toD (poll : (List (List Int))))), some (.d (toD ((v1.length : Int) : Int))), some (.t (trL (trL frD) (s62 : (List (List Int))))), some (.d (toD (x49 : (List Int)))), none, none, none]) (j_sFor (j_iEnum (j_var rfl (j_it (fz_d rfl) (selE_map toD _) (j_for (l := [1, 1, 1, 1, 0, 0, 0]) (D := toD) (Γs := fun (s62 : (List (List Int))) => [some (.d (toD (poll : (List (List Int))))), some (.d (toD ((v1.length : Int) : Int))), some (.t (trL (trL frD) (s62 : (List (List Int))))), some (.d (toD (x49 : (List Int)))), none, none, none]) s48 rfl (fun _ => rfl) fun s62 x63 => (j_gT2 (j_last (j_re (Γ' := [some (.d (toD (poll : (List (List Int))))), some (.d (toD ((v1.length : Int) : Int))), some (.t (trL (trL frD) (s62 : (List (List Int))))), some (.d (toD (x49 : (List Int)))), some (.d (toD (x63.1 : Int))), some (.d (toD (x63.2 : Int))), none]) rfl (j_seq (Γs := fun (s66 : (List (List Int))) => [some (.d (toD (poll : (List (List Int))))), some (.d (toD ((v1.length : Int) : Int))), some (.t (trL (trL frD) (s66 : (List (List Int))))), some (.d (toD (x49 : (List Int)))), some (.d (toD (x63.1 : Int))), some (.d (toD (x63.2 : Int))), none]) (j_sFor (j_iSeq (j_sl (j_var rfl (j_osome (j_bin (j_var rfl (j_c (j_op (rd_d rfl) rd_b x_add (j_int rd_b (j_ono (j_slop (rd_d rfl) (x_sl (τ := Int)) (j_it fz_w rfl (j_for (l := [1, 1, 1, 1, 1, 1, 0]) (D := toD) (Γs := fun (s66 : (List (List Int))) => [some (.d (toD (poll : (List (List Int))))), some (.d (toD ((v1.length : Int) : Int))), some (.t (trL (trL frD) (s66 : (List (List Int))))), some (.d (toD (x49 : (List Int)))), some (.d (toD (x63.1 : Int))), some (.d (toD (x63.2 : Int))), none]) s62 rfl (fun _ => rfl) fun s66 x67 => (j_gN (j_last (j_re (Γ' := [some (.d (toD (poll : (List (List Int))))), some (.d (toD ((v1.length : Int) : Int))), some (.t (trL (trL frD) (s66 : (List (List Int))))), some (.d (toD (x49 : (List Int)))), some (.d (toD (x63.1 : Int))), some (.d (toD (x63.2 : Int))), some (.d (toD (x67 : Int)))]) rfl (j_augLL rfl (j_var rfl (j_ko (l := [1, 1, 0, 1, 1, 1, 1]) (rd_d rfl) rfl rfl)) (j_var rfl (j_ko (l := [1, 1, 0, 1, 1, 1, 1]) (rd_d rfl) rfl rfl)) (j_c (j_ko (l := [1, 1, 0, 1, 1, 1, 1]) rd_b rfl rfl)) fun v68 => (j_nil (l := [1, 1, 1, 1, 1, 1, 0]) rfl rfl))))))))))))))))))) fun s69 => (j_nil (l := [1, 1, 1, 1, 0, 0, 0]) rfl rfl)))))))))) fun s70 => (j_nil (l := [1, 1, 1, 0, 0, 0, 0]) rfl rfl)))))))))) fun s71 => (j_last (j_re (Γ' := [some (.d (toD (poll : (List (List Int))))), some (.d (toD ((v1.length : Int) : Int))), some (.t (trL (trL frD) (s71 : (List (List Int))))), none, none, none, none]) rfl (j_ret (j_var rfl (j_rets (l := [0, 0, 0, 0, 0, 0, 0]) rfl (fun _ => sl_id) rfl rfl))))))))))))))))))))))))))) (fun a p hp => nomatch hp)
def m_need_poll (poll : (List (List Int))) : R Unit :=
  if (false || (!((decide ((1 : Int) ≤ (poll.length : Int))) && (decide ((poll.length : Int) ≤ (20 : Int)))))) = true then
  (.ex "NoOrder")
  else
  (R.bind (lcM (fun (x1 : (List Int)) => R.calm (R.bind (m_is_order x1) fun v2 =>
  if (!v2) = true then
  (.ok (some x1))
  else
  (.ok none))) poll []) fun ys3 =>
  if (!decide (ys3 = ([] : (List (List Int))))) = true then
  (.ex "NoOrder")
  else
  (R.bind (lcM (fun (x4 : (List Int)) => R.calm (ob (atI poll ((0 : Int))) fun v5 =>
  if (!decide ((x4.length : Int) = (v5.length : Int))) = true then
  (.ok (some x4))
  else
  (.ok none))) poll []) fun ys6 =>
  if (!decide (ys6 = ([] : (List (List Int))))) = true then
  (.ex "NoOrder")
  else
  (.ok ())))
theorem sim_need_poll (poll : (List (List Int))) : FnS h_need_poll [.fr (toD (poll : (List (List Int))))] (m_need_poll poll) (fun _ => .d .none) (fun a : Unit => []) :=
  fn_mkN (n := 1) (ss := [(.d (toD (poll : (List (List Int)))))]) (Γe := fun a : Unit => [none, none]) rfl (.cons rfl All2.nil) rfl
  (j_if (j_or (j_not (j_test (j_isi (j_var rfl (j_isi2 (b := true) (rd_d rfl) rfl (j_bool rd_b (j_kb (l := [1, 0]) rfl rfl))))))) (j_not (j_test (j_chain (j_c (j_cb (j_acons (j_var rfl (j_anil (j_cbop (ra_cons (rd_d rfl) ra_nil) (x_len (τ := (List Int))) (j_chain3 rd_b rd_b x_le (j_c (j_ko (l := [1, 0]) rd_b rfl rfl)) x_le (j_bool rd_b (j_kb (l := [1, 0]) rfl rfl)))))))))))) (j_ite j_seqRaise (j_seqNil (j_if (j_test (j_bin (j_lc (j_iSeq (j_var rfl (j_it (fz_d rfl) rfl (j_lcM (Γs := [some (.d (toD (poll : (List (List Int))))), none]) (l := [1, 0]) (D := toD) (E := toD) (xr := fun a => toD a) rfl rfl (fun x1 => (j_gN (j_not (j_test (j_callP (j_aP (j_var rfl (j_aPs (j_anil (j_callPop rfl (la_d rfl la_nil) rfl (sim_is_order x1) (fun _ => rfl) fun v2 => (j_bool rd_b (j_ite (j_var rfl (j_kf (l := [1, 0]) (fz_d rfl) rfl rfl)) (j_skip (l := [1, 0]) rfl rfl))))))))))))) (fun _ => rfl) fun ys3 => (j_lst (j_dnil (j_lst2 (toD (([] : (List (List Int))) : (List (List Int)))) rfl rfl (j_op rd_w rd_w (x_ne (τ := (List (List Int)))) (j_bool rd_b (j_ite j_seqRaise (j_seqNil (j_last (j_if (j_test (j_bin (j_lc (j_iSeq (j_var rfl (j_it (fz_d rfl) rfl (j_lcM (Γs := [some (.d (toD (poll : (List (List Int))))), none]) (l := [1, 0]) (D := toD) (E := toD) (xr := fun a => toD a) rfl rfl (fun x4 => (j_gN (j_test (j_bin (j_cb (j_acons (j_var rfl (j_anil (j_cbop (ra_cons (rd_d rfl) ra_nil) (x_len (τ := Int)) (j_cb (j_acons (j_bin (j_var rfl (j_c (j_opR (rd_d rfl) rd_b (x_ix (τ := (List Int))) fun v5 => (j_anil (j_cbop (ra_cons rd_b ra_nil) (x_len (τ := Int)) (j_op rd_b rd_b (x_ne (τ := Int)) (j_bool rd_b (j_ite (j_var rfl (j_kf (l := [1, 0]) (fz_d rfl) rfl rfl)) (j_skip (l := [1, 0]) rfl rfl))))))))))))))))))))) (fun _ => rfl) fun ys6 => (j_lst (j_dnil (j_lst2 (toD (([] : (List (List Int))) : (List (List Int)))) rfl rfl (j_op rd_w rd_w (x_ne (τ := (List (List Int)))) (j_bool rd_b (j_ite j_seqRaise (j_seqNil (j_nilF (l := [0, 0]) rfl rfl)))))))))))))))))))))))))))))))))))) (fun a p hp => nomatch hp)
def m_pairs_ahead (poll : (List (List Int))) : R ((List ((Int × Int) × Int))) :=
  R.bind (m_need_poll poll) fun v1 =>
  R.bind (m_ahead_in poll) fun v2 =>
  R.bind (ob (rg1 ((v2.length : Int))) fun xs3 =>
  foldM (fun (s30 : (List ((Int × Int) × Int))) (x31 : Int) =>
  R.bind (ob (rg2 ((x31 + (1 : Int))) ((v2.length : Int))) fun xs32 =>
  foldM (fun (s39 : (List ((Int × Int) × Int))) (x40 : Int) =>
  ob (atI v2 x31) fun v41 =>
  ob (atI v41 x40) fun v42 =>
  ob (putG s39 ((x31, x40)) v42) fun v43 =>
  .ok v43) xs32 s30) fun (s44 : (List ((Int × Int) × Int))) =>
  .ok s44) xs3 (([] : (List ((Int × Int) × Int))))) fun (s45 : (List ((Int × Int) × Int))) =>
  .ok s45
theorem sim_pairs_ahead (poll : (List (List Int))) : FnS h_pairs_ahead [.fr (toD (poll : (List (List Int))))] (m_pairs_ahead poll) (fun a : (List ((Int × Int) × Int)) => .rs 2 (dD (a : (List ((Int × Int) × Int))))) (fun a : (List ((Int × Int) × Int)) => []) :=
  fn_mk (n := 4) (rv := fun a : (List ((Int × Int) × Int)) => .rs 2 (dD (a : (List ((Int × Int) × Int))))) (ss := [(.d (toD (poll : (List (List Int)))))]) (Γe := fun a : (List ((Int × Int) × Int)) => [none, none, none, none, none]) rfl (.cons rfl All2.nil) rfl
  (j_expr (j_callP (j_aP (j_var rfl (j_aPs (j_anil (j_callPop rfl (la_d rfl la_nil) rfl (sim_need_poll poll) (fun _ => rfl) fun v1 => (j_asg (j_ice (j_call (j_aF (j_var rfl (j_fzb (fzb_of (fz_d rfl)) (j_anil (j_callTr rfl (ba_b ba_nil) (sim_ahead_in poll) (fun _ => rfl) fun v2 => (j_iceo (fz_t ((dat_trL (dat_trL dat_frD)) _)) (j_fzb (fzb_of fz_b) (j_setD (j_own (j_tnew (κ := (Int × Int)) (υ := Int) (j_ownb (j_setR (j_seq (Γs := fun (s30 : (List ((Int × Int) × Int))) => [some (.d (toD (poll : (List (List Int))))), some (.d (toD (v2 : (List (List Int))))), some (.rs 2 (dD (s30 : (List ((Int × Int) × Int))))), none, none]) (j_sFor (j_iRg1 (j_cb (j_acons (j_var rfl (j_anil (j_cbop (ra_cons (rd_d rfl) ra_nil) (x_len (τ := (List Int))) (j_rg1 rd_b fun xs3 => (j_for (l := [1, 1, 1, 0, 0]) (D := toD) (Γs := fun (s30 : (List ((Int × Int) × Int))) => [some (.d (toD (poll : (List (List Int))))), some (.d (toD (v2 : (List (List Int))))), some (.rs 2 (dD (s30 : (List ((Int × Int) × Int))))), none, none]) (([] : (List ((Int × Int) × Int)))) rfl (fun _ => rfl) fun s30 x31 => (j_gN (j_last (j_seq (Γs := fun (s39 : (List ((Int × Int) × Int))) => [some (.d (toD (poll : (List (List Int))))), some (.d (toD (v2 : (List (List Int))))), some (.rs 2 (dD (s39 : (List ((Int × Int) × Int))))), some (.d (toD (x31 : Int))), none]) (j_sFor (j_iRg2 (j_bin (j_var rfl (j_c (j_op (rd_d rfl) rd_b x_add (j_cb (j_acons (j_var rfl (j_anil (j_cbop (ra_cons (rd_d rfl) ra_nil) (x_len (τ := (List Int))) (j_rg2 rd_b rd_b fun xs32 => (j_for (l := [1, 1, 1, 1, 0]) (D := toD) (Γs := fun (s39 : (List ((Int × Int) × Int))) => [some (.d (toD (poll : (List (List Int))))), some (.d (toD (v2 : (List (List Int))))), some (.rs 2 (dD (s39 : (List ((Int × Int) × Int))))), some (.d (toD (x31 : Int))), none]) s30 rfl (fun _ => rfl) fun s39 x40 => (j_gN (j_last (j_tput (j_bin (j_bin (j_var rfl (j_var rfl (j_opR (rd_d rfl) (rd_d rfl) (x_ix (τ := (List Int))) fun v41 => (j_var rfl (j_opR rd_b (rd_d rfl) (x_ix (τ := Int)) fun v42 => (j_fz fz_b (j_ist rfl (j_tup (j_dcons (j_var rfl (j_fz (fz_d rfl) (j_dcons (j_var rfl (j_fz (fz_d rfl) (j_dnil (j_tup2 (toD ((x31, x40) : (Int × Int))) rfl rfl (j_tputop (κ := (Int × Int)) (υ := Int) rfl rd_b fun v43 => (j_nil (l := [1, 1, 1, 1, 0]) rfl rfl)))))))))))))))))))))))))))))))))))) fun s44 => (j_nil (l := [1, 1, 1, 0, 0]) rfl rfl))))))))))))) fun s45 => (j_last (j_ret (j_var rfl (j_rets (l := [0, 0, 0, 0, 0]) rfl (fun _ => sl_id) rfl rfl))))))))))))))))))))))))))) (fun a p hp => nomatch hp)
def m_pair_sum (poll : (List (List Int))) : R Int :=
  R.bind (m_pairs_ahead poll) fun v1 =>
  ob (lcP (fun (x2 : Int) => true) (fun (x2 : Int) => ((min2 x2 (((poll.length : Int) - x2))))) ((v1.map (·.2)))) fun ys3 =>
  .ok ((ys3.sum))
theorem sim_pair_sum (poll : (List (List Int))) : FnS h_pair_sum [.fr (toD (poll : (List (List Int))))] (m_pair_sum poll) (fun a : Int => .d (toD (a : Int))) (fun a : Int => []) :=
  fn_mk (n := 2) (rv := fun a : Int => .d (toD (a : Int))) (ss := [(.d (toD (poll : (List (List Int)))))]) (Γe := fun a : Int => [none, none, none]) rfl (.cons rfl All2.nil) rfl
  (j_own (j_call (j_aF (j_var rfl (j_fzb (fzb_of (fz_d rfl)) (j_anil (j_callR rfl (ba_b ba_nil) (sim_pairs_ahead poll) (fun _ => rfl) fun v1 => (j_ownb (j_setR (j_last (j_ret (j_cb (j_acons (j_frzT rfl (j_lc (j_iValsT rfl (j_lcP (Γs := [some (.d (toD (poll : (List (List Int))))), some (.rs 3 (dD (v1 : (List ((Int × Int) × Int))))), none]) (l := [1, 1, 0]) (D := toD) (E := toD) (xr := fun a => toD a) (p := fun (x2 : Int) => true) (q := fun (x2 : Int) => ((min2 x2 (((poll.length : Int) - x2))))) rfl rfl (fun x2 => (j_gN (j_tt (j_cb (j_acons (j_var rfl (j_acons (j_bin (j_cb (j_acons (j_var rfl (j_anil (j_cbop (ra_cons (rd_d rfl) ra_nil) (x_len (τ := (List Int))) (j_var rfl (j_op rd_b (rd_d rfl) x_sub (j_anil (j_cbop (ra_cons (rd_d rfl) (ra_cons rd_b ra_nil)) x_min2 (j_kf (l := [1, 1, 0]) fz_b rfl rfl)))))))))))))))))) (fun _ => rfl) fun ys3 => (j_anil (j_cbop (ra_cons rd_w ra_nil) x_sum (j_retb (l := [0, 0, 0]) sl_d rfl rfl)))))))))))))))))))) (fun a p hp => nomatch hp)
def m_law (script : (List Int)) : R Bool :=
  R.bind (ob (rg1 ((max2 ((1 : Int)) ((min2 ((script.length : Int)) ((5 : Int))))))) fun xs1 =>
  loopM (fun (s82 : Unit) (x83 : Int) =>
  R.bind (m__law_cell_at script x83) fun v84 =>
  R.bind (m__law_deck v84 ((760 : Int))) fun v85 =>
  R.bind (m__law_next v85) fun v86 =>
  R.bind (m__law_next v86.2) fun v87 =>
  R.bind (m__law_next v87.2) fun v88 =>
  ob (atI ([((1 : Int) + (v86.1 % (12 : Int))), ((1 : Int) + (v87.1 % (4 : Int))), (12 : Int)]) ((v88.1 % (3 : Int)))) fun v89 =>
  R.bind (m__law_poll v88.2 v89 ((20 : Int))) fun v90 =>
  R.bind (m__law_ahead v90.1) fun v91 =>
  R.bind (lcM (fun (x92 : (Int × Int)) => R.calm (if (decide (x92.1 < x92.2)) = true then
  (ob (lookT v91 x92) fun v93 =>
  .ok (some ((x92, v93))))
  else
  (.ok none))) ((v91.map (·.1))) []) fun ys94 =>
  ob (lcP (fun (x95 : Int) => true) (fun (x95 : Int) => ((min2 x95 (((v90.1.length : Int) - x95))))) ((((mergeTT ys94)).map (·.2)))) fun ys96 =>
  R.bind (m__law_copied v90.1) fun v97 =>
  R.bind (ob (rg1 ((2 : Int))) fun xs98 =>
  loopM (fun (s130 : Unit) (x131 : Int) =>
  R.bind (m_pairs_ahead v97) fun v132 =>
  if (false || ((neDM v132 ((mergeTT ys94))) || (!decide (v97 = v90.1)))) = true then
  (.ok (.rt false))
  else
  (R.bind (R.bind (lcM (fun (x133 : Int) => R.calm (R.bind (m__law_whole x133) fun v134 =>
  if (!v134) = true then
  (.ok (some x133))
  else
  (.ok none))) ((v132.map (·.2))) []) fun ys135 =>
  if (!decide (ys135 = ([] : (List Int)))) = true then
  (.ok (.rt false))
  else
  (.ok (.nx ()))) (Fl.outL (fun (b : Bool) => .ok (.rt b)) (
  R.bind (R.bind (loopM (fun (s144 : Unit) (x145 : (Int × Int)) =>
  R.bind (R.bind (m__law_whole x145.1) fun v152 =>
  if (!v152) = true then
  (.ok true)
  else
  (R.bind (m__law_whole x145.2) fun v153 =>
  .ok ((!v153)))) fun b151 =>
  if b151 = true then
  (.ok (.rt false))
  else
  (.ok (.nx ()))) ((v132.map (·.1))) (())) (Fl.outF fun (s154 : Unit) =>
  .ok (.nx ()))) (Fl.outL (fun (b : Bool) => .ok (.rt b)) (
  R.bind (ob (lcP (fun (x155 : (Int × Int)) => false) (fun (x155 : (Int × Int)) => x155) ((v132.map (·.1)))) fun ys156 =>
  if (!decide (ys156 = ([] : (List (Int × Int))))) = true then
  (.ok (.rt false))
  else
  (.ok (.nx ()))) (Fl.outL (fun (b : Bool) => .ok (.rt b)) (
  R.bind (m_pair_sum v97) fun v157 =>
  R.bind (R.bind (m__law_whole v157) fun v162 =>
  if (!v162) = true then
  (.ok true)
  else
  (if (!decide (v157 = (ys96.sum))) = true then
  (.ok true)
  else
  (.ok ((!decide (v97 = v90.1)))))) fun b161 =>
  if b161 = true then
  (.ok (.rt false))
  else
  (.ok (.nx ())))))))))) xs98 (())) (Fl.outF fun (s163 : Unit) =>
  .ok (.nx ()))) xs1 (())) (Fl.out fun (s164 : Unit) =>
  .ok true)
theorem sim_law (script : (List Int)) : FnS h_law [.sc script] (m_law script) (fun a : Bool => .d (toD (a : Bool))) (fun a : Bool => []) :=
  fn_mk (n := 15) (rv := fun a : Bool => .d (toD (a : Bool))) (ss := [.sc script]) (Γe := fun a : Bool => [none, none, none, none, none, none, none, none, none, none, none, none, none, none, none, none]) rfl (.cons rfl All2.nil) rfl
  (j_re (Γ' := [some (.sc script), none, none, none, none, none, none, none, none, none, none, none, none, none, none, none]) rfl (j_seqF (Γs := fun (s82 : Unit) => [some (.sc script), none, none, none, none, none, none, none, none, none, none, none, none, none, none, none]) (fun _ => rfl) (j_sFor (j_iRg1 (j_cb (j_acons (j_c (j_acons (j_cb (j_acons (j_scLen (j_var rfl (j_scLen2  rfl (j_acons (j_c (j_anil (j_cbop (ra_cons rd_b (ra_cons rd_b ra_nil)) x_min2 (j_anil (j_cbop (ra_cons rd_b (ra_cons rd_b ra_nil)) x_max2 (j_rg1 rd_b fun xs1 => (j_loop (l := [1, 0, 0, 0, 0, 0, 0, 0, 0, 0, 0, 0, 0, 0, 0, 0]) (D := toD) (Γs := fun (s82 : Unit) => [some (.sc script), none, none, none, none, none, none, none, none, none, none, none, none, none, none, none]) (()) rfl (fun _ => ⟨_, _, rfl⟩) (fun _ => rfl) fun s82 x83 => (j_gN (j_re (Γ' := [some (.sc script), some (.d (toD (x83 : Int))), none, none, none, none, none, none, none, none, none, none, none, none, none, none]) rfl (j_own (j_call (j_aF (j_call (j_aF (j_var rfl (j_fzb (fzb_sc rfl) (j_aF (j_var rfl (j_fzb (fzb_of (fz_d rfl)) (j_anil (j_callF rfl (ba_b (ba_b ba_nil)) (sim__law_cell_at script x83) (fun _ => rfl) (fun _ => rfl) fun v84 => (j_fzb (fzb_of fz_b) (j_aF (j_c (j_fzb (fzb_of fz_b) (j_anil (j_callO rfl (ba_b (ba_b ba_nil)) (sim__law_deck v84 ((760 : Int))) (fun _ => rfl) fun v85 => (j_ownb (j_setO (j_re (Γ' := [some (.sc script), some (.d (toD (x83 : Int))), some (.o (toD (v85 : (List Int)))), none, none, none, none, none, none, none, none, none, none, none, none, none]) rfl (j_asg (j_bin (j_lst (j_dcons (j_bin (j_c (j_bin (j_call (j_aM rfl (j_anil (j_callF rfl (ba_o rfl ba_nil) (sim__law_next v85) (fun _ => rfl) (fun _ => rfl) fun v86 => (j_c (j_op rd_b rd_b (x_mod (by decide)) (j_op rd_b rd_b x_add (j_fz fz_b (j_dcons (j_bin (j_c (j_bin (j_call (j_aM rfl (j_anil (j_callF rfl (ba_o rfl ba_nil) (sim__law_next v86.2) (fun _ => rfl) (fun _ => rfl) fun v87 => (j_c (j_op rd_b rd_b (x_mod (by decide)) (j_op rd_b rd_b x_add (j_fz fz_b (j_dcons (j_c (j_fz fz_b (j_dnil (j_lst2 (toD ([((1 : Int) + (v86.1 % (12 : Int))), ((1 : Int) + (v87.1 % (4 : Int))), (12 : Int)] : (List Int))) rfl rfl (j_bin (j_call (j_aM rfl (j_anil (j_callF rfl (ba_o rfl ba_nil) (sim__law_next v87.2) (fun _ => rfl) (fun _ => rfl) fun v88 => (j_c (j_op rd_b rd_b (x_mod (by decide)) (j_opR rd_w rd_b (x_ix (τ := Int)) fun v89 => (j_fzb (fzb_of fz_b) (j_setD (j_re (Γ' := [some (.sc script), some (.d (toD (x83 : Int))), some (.o (toD (v88.2 : (List Int)))), some (.d (toD (v89 : Int))), none, none, none, none, none, none, none, none, none, none, none, none]) rfl (j_asg (j_call (j_aM rfl (j_aF (j_var rfl (j_fzb (fzb_of (fz_d rfl)) (j_aF (j_c (j_fzb (fzb_of fz_b) (j_anil (j_callO rfl (ba_o rfl (ba_b (ba_b ba_nil))) (sim__law_poll v88.2 v89 ((20 : Int))) (fun _ => rfl) fun v90 => (j_fzb (fzb_of fz_w) (j_setD (j_re (Γ' := [some (.sc script), some (.d (toD (x83 : Int))), some (.o (toD (v90.2 : (List Int)))), some (.d (toD (v89 : Int))), some (.d (toD (v90.1 : (List (List Int))))), none, none, none, none, none, none, none, none, none, none, none]) rfl (j_own (j_call (j_aF (j_var rfl (j_fzb (fzb_of (fz_d rfl)) (j_anil (j_callR rfl (ba_b ba_nil) (sim__law_ahead v90.1) (fun _ => rfl) fun v91 => (j_ownb (j_setR (j_re (Γ' := [some (.sc script), some (.d (toD (x83 : Int))), some (.o (toD (v90.2 : (List Int)))), some (.d (toD (v89 : Int))), some (.d (toD (v90.1 : (List (List Int))))), some (.rs 2 (dD (v91 : (List ((Int × Int) × Int))))), none, none, none, none, none, none, none, none, none, none]) rfl (j_own (j_cb (j_acons (j_frzT rfl (j_lc (j_iKeysP (υ := Int) rfl (j_lcM (Γs := [some (.sc script), some (.d (toD (x83 : Int))), some (.o (toD (v90.2 : (List Int)))), some (.d (toD (v89 : Int))), some (.d (toD (v90.1 : (List (List Int))))), some (.rs 3 (dD (v91 : (List ((Int × Int) × Int))))), none, none, none, none, none, none, none, none, none, none]) (l := [1, 1, 1, 1, 1, 1, 0, 0, 0, 0, 0, 0, 0, 0, 0, 0]) (D := toD) (E := toD) (xr := fun a => toD a) rfl rfl (fun x92 => (j_gN (j_test (j_bin (j_bin (j_var rfl (j_c (j_op (rd_d rfl) rd_b rfl (j_bin (j_var rfl (j_c (j_op (rd_d rfl) rd_b rfl (j_op rd_b rd_b x_lt (j_bool rd_b (j_ite (j_tup (j_dcons (j_var rfl (j_fz (fz_d rfl) (j_dcons (j_fget rfl (j_var rfl (j_fgop (κ := (Int × Int)) (υ := Int) rfl (rd_d rfl) fun v93 => (j_fz fz_b (j_dnil (j_tup2 (toD ((x92, v93) : ((Int × Int) × Int))) rfl rfl (j_kf (l := [1, 1, 1, 1, 1, 1, 0, 0, 0, 0, 0, 0, 0, 0, 0, 0]) fz_b rfl rfl)))))))))))) (j_skip (l := [1, 1, 1, 1, 1, 1, 0, 0, 0, 0, 0, 0, 0, 0, 0, 0]) rfl rfl)))))))))))))))) (fun _ => rfl) fun ys94 => (j_anil (j_cbop (ra_cons rd_w ra_nil) (x_dictT (κ := (Int × Int)) (υ := Int)) (j_ownb (j_setR (j_re (Γ' := [some (.sc script), some (.d (toD (x83 : Int))), some (.o (toD (v90.2 : (List Int)))), some (.d (toD (v89 : Int))), some (.d (toD (v90.1 : (List (List Int))))), some (.rs 3 (dD (v91 : (List ((Int × Int) × Int))))), some (.rs 2 (dD ((mergeTT ys94) : (List ((Int × Int) × Int))))), none, none, none, none, none, none, none, none, none]) rfl (j_asg (j_cb (j_acons (j_frzT rfl (j_lc (j_iValsT rfl (j_lcP (Γs := [some (.sc script), some (.d (toD (x83 : Int))), some (.o (toD (v90.2 : (List Int)))), some (.d (toD (v89 : Int))), some (.d (toD (v90.1 : (List (List Int))))), some (.rs 3 (dD (v91 : (List ((Int × Int) × Int))))), some (.rs 3 (dD ((mergeTT ys94) : (List ((Int × Int) × Int))))), none, none, none, none, none, none, none, none, none]) (l := [1, 1, 1, 1, 1, 1, 1, 0, 0, 0, 0, 0, 0, 0, 0, 0]) (D := toD) (E := toD) (xr := fun a => toD a) (p := fun (x95 : Int) => true) (q := fun (x95 : Int) => ((min2 x95 (((v90.1.length : Int) - x95))))) rfl rfl (fun x95 => (j_gN (j_tt (j_cb (j_acons (j_var rfl (j_acons (j_bin (j_cb (j_acons (j_var rfl (j_anil (j_cbop (ra_cons (rd_d rfl) ra_nil) (x_len (τ := (List Int))) (j_var rfl (j_op rd_b (rd_d rfl) x_sub (j_anil (j_cbop (ra_cons (rd_d rfl) (ra_cons rd_b ra_nil)) x_min2 (j_kf (l := [1, 1, 1, 1, 1, 1, 1, 0, 0, 0, 0, 0, 0, 0, 0, 0]) fz_b rfl rfl)))))))))))))))))) (fun _ => rfl) fun ys96 => (j_anil (j_cbop (ra_cons rd_w ra_nil) x_sum (j_fzb (fzb_of fz_b) (j_setD (j_re (Γ' := [some (.sc script), some (.d (toD (x83 : Int))), some (.o (toD (v90.2 : (List Int)))), some (.d (toD (v89 : Int))), some (.d (toD (v90.1 : (List (List Int))))), some (.rs 3 (dD (v91 : (List ((Int × Int) × Int))))), some (.rs 3 (dD ((mergeTT ys94) : (List ((Int × Int) × Int))))), some (.d (toD ((ys96.sum) : Int))), none, none, none, none, none, none, none, none]) rfl (j_asg (j_call (j_aF (j_var rfl (j_fzb (fzb_of (fz_d rfl)) (j_anil (j_callO rfl (ba_b ba_nil) (sim__law_copied v90.1) (fun _ => rfl) fun v97 => (j_fzb (fzb_of fz_w) (j_setD (j_last (j_re (Γ' := [some (.sc script), some (.d (toD (x83 : Int))), some (.o (toD (v90.2 : (List Int)))), some (.d (toD (v89 : Int))), some (.d (toD (v90.1 : (List (List Int))))), some (.rs 3 (dD (v91 : (List ((Int × Int) × Int))))), some (.rs 3 (dD ((mergeTT ys94) : (List ((Int × Int) × Int))))), some (.d (toD ((ys96.sum) : Int))), some (.d (toD (v97 : (List (List Int))))), none, none, none, none, none, none, none]) rfl (j_seqFF (Γs := fun (s130 : Unit) => [some (.sc script), some (.d (toD (x83 : Int))), some (.o (toD (v90.2 : (List Int)))), some (.d (toD (v89 : Int))), some (.d (toD (v90.1 : (List (List Int))))), some (.rs 3 (dD (v91 : (List ((Int × Int) × Int))))), some (.rs 3 (dD ((mergeTT ys94) : (List ((Int × Int) × Int))))), some (.d (toD ((ys96.sum) : Int))), some (.d (toD (v97 : (List (List Int))))), none, none, none, none, none, none, none]) (fun _ => rfl) (j_sFor (j_iRg1 (j_c (j_rg1 rd_b fun xs98 => (j_loop (l := [1, 1, 1, 1, 1, 1, 1, 1, 1, 0, 0, 0, 0, 0, 0, 0]) (D := toD) (Γs := fun (s130 : Unit) => [some (.sc script), some (.d (toD (x83 : Int))), some (.o (toD (v90.2 : (List Int)))), some (.d (toD (v89 : Int))), some (.d (toD (v90.1 : (List (List Int))))), some (.rs 3 (dD (v91 : (List ((Int × Int) × Int))))), some (.rs 3 (dD ((mergeTT ys94) : (List ((Int × Int) × Int))))), some (.d (toD ((ys96.sum) : Int))), some (.d (toD (v97 : (List (List Int))))), none, none, none, none, none, none, none]) (()) rfl (fun _ => ⟨_, _, rfl⟩) (fun _ => rfl) fun s130 x131 => (j_gN (j_re (Γ' := [some (.sc script), some (.d (toD (x83 : Int))), some (.o (toD (v90.2 : (List Int)))), some (.d (toD (v89 : Int))), some (.d (toD (v90.1 : (List (List Int))))), some (.rs 3 (dD (v91 : (List ((Int × Int) × Int))))), some (.rs 3 (dD ((mergeTT ys94) : (List ((Int × Int) × Int))))), some (.d (toD ((ys96.sum) : Int))), some (.d (toD (v97 : (List (List Int))))), some (.d (toD (x131 : Int))), none, none, none, none, none, none]) rfl (j_own (j_call (j_aF (j_var rfl (j_fzb (fzb_of (fz_d rfl)) (j_anil (j_callR rfl (ba_b ba_nil) (sim_pairs_ahead v97) (fun _ => rfl) fun v132 => (j_ownb (j_setR (j_re (Γ' := [some (.sc script), some (.d (toD (x83 : Int))), some (.o (toD (v90.2 : (List Int)))), some (.d (toD (v89 : Int))), some (.d (toD (v90.1 : (List (List Int))))), some (.rs 3 (dD (v91 : (List ((Int × Int) × Int))))), some (.rs 3 (dD ((mergeTT ys94) : (List ((Int × Int) × Int))))), some (.d (toD ((ys96.sum) : Int))), some (.d (toD (v97 : (List (List Int))))), some (.d (toD (x131 : Int))), some (.rs 2 (dD (v132 : (List ((Int × Int) × Int))))), none, none, none, none, none]) rfl (j_if (j_or (j_not (j_test (j_isDT (κ := (Int × Int)) (υ := Int) rfl (j_bool rd_b (j_kb (l := [1, 1, 1, 1, 1, 1, 1, 1, 1, 1, 1, 0, 0, 0, 0, 0]) rfl rfl))))) (j_or (j_test (j_neD (κ := (Int × Int)) rfl rfl (.inl rfl) (.inr rfl) (j_bool rd_b (j_kb (l := [1, 1, 1, 1, 1, 1, 1, 1, 1, 1, 1, 0, 0, 0, 0, 0]) rfl rfl)))) (j_test (j_bin (j_var rfl (j_var rfl (j_op (rd_d rfl) (rd_d rfl) (x_ne (τ := (List (List Int)))) (j_bool rd_b (j_kb (l := [1, 1, 1, 1, 1, 1, 1, 1, 1, 1, 1, 0, 0, 0, 0, 0]) rfl rfl))))))) (j_kb (l := [1, 1, 1, 1, 1, 1, 1, 1, 1, 1, 1, 0, 0, 0, 0, 0]) rfl rfl)) (j_ite (j_re (Γ' := [some (.sc script), some (.d (toD (x83 : Int))), some (.o (toD (v90.2 : (List Int)))), some (.d (toD (v89 : Int))), some (.d (toD (v90.1 : (List (List Int))))), some (.rs 3 (dD (v91 : (List ((Int × Int) × Int))))), some (.rs 3 (dD ((mergeTT ys94) : (List ((Int × Int) × Int))))), some (.d (toD ((ys96.sum) : Int))), some (.d (toD (v97 : (List (List Int))))), some (.d (toD (x131 : Int))), some (.rs 2 (dD (v132 : (List ((Int × Int) × Int))))), none, none, none, none, none]) rfl (j_ret (j_c (j_retb (l := [0, 0, 0, 0, 0, 0, 0, 0, 0, 0, 0, 0, 0, 0, 0, 0]) sl_d rfl rfl)))) (j_seqNil (j_lockF (ks := [0, 1, 2, 3, 4, 5, 6, 7, 8, 9, 10, 11, 12, 13, 14]) (Γk := [some (.sc script), some (.d (toD (x83 : Int))), some (.o (toD (v90.2 : (List Int)))), some (.d (toD (v89 : Int))), some (.d (toD (v90.1 : (List (List Int))))), some (.rs 3 (dD (v91 : (List ((Int × Int) × Int))))), some (.rs 3 (dD ((mergeTT ys94) : (List ((Int × Int) × Int))))), some (.d (toD ((ys96.sum) : Int))), some (.d (toD (v97 : (List (List Int))))), some (.d (toD (x131 : Int))), some (.rs 2 (dD (v132 : (List ((Int × Int) × Int))))), none, none, none, none, none]) (Γs := fun (_ : Unit) => [none, none, none, none, none, none, none, none, none, none, none, none, none, none, none, none]) (Γr := fun _ => [none, none, none, none, none, none, none, none, none, none, none, none, none, none, none, none]) (xr := fun b : Bool => (toD (b : Bool))) rfl (LdC.sc (LdC.d (LdC.o (LdC.d (LdC.d (LdC.no (LdC.no (LdC.d (LdC.d (LdC.d (LdC.no (LdC.no (LdC.no (LdC.no (LdC.no (LdC.no LdC.nil)))))))))))))))) rfl (j_last (j_re (Γ' := [some (.sc script), some (.d (toD (x83 : Int))), some (.d (toD (v90.2 : (List Int)))), some (.d (toD (v89 : Int))), some (.d (toD (v90.1 : (List (List Int))))), none, none, some (.d (toD ((ys96.sum) : Int))), some (.d (toD (v97 : (List (List Int))))), some (.d (toD (x131 : Int))), some (.rs 3 (dD (v132 : (List ((Int × Int) × Int))))), none, none, none, none, none]) rfl (j_if (j_test (j_bin (j_lc (j_iValsT rfl (j_lcM (Γs := [some (.sc script), some (.d (toD (x83 : Int))), some (.d (toD (v90.2 : (List Int)))), some (.d (toD (v89 : Int))), some (.d (toD (v90.1 : (List (List Int))))), none, none, some (.d (toD ((ys96.sum) : Int))), some (.d (toD (v97 : (List (List Int))))), some (.d (toD (x131 : Int))), some (.rs 3 (dD (v132 : (List ((Int × Int) × Int))))), none, none, none, none, none]) (l := [1, 1, 1, 1, 1, 0, 0, 1, 1, 1, 1, 0, 0, 0, 0, 0]) (D := toD) (E := toD) (xr := fun a => toD a) rfl rfl (fun x133 => (j_gN (j_not (j_test (j_callP (j_aP (j_var rfl (j_aPs (j_anil (j_callPop rfl (la_d rfl la_nil) rfl (sim__law_whole x133) (fun _ => rfl) fun v134 => (j_bool rd_b (j_ite (j_var rfl (j_kf (l := [1, 1, 1, 1, 1, 0, 0, 1, 1, 1, 1, 0, 0, 0, 0, 0]) (fz_d rfl) rfl rfl)) (j_skip (l := [1, 1, 1, 1, 1, 0, 0, 1, 1, 1, 1, 0, 0, 0, 0, 0]) rfl rfl))))))))))))) (fun _ => rfl) fun ys135 => (j_lst (j_dnil (j_lst2 (toD (([] : (List Int)) : (List Int))) rfl rfl (j_op rd_w rd_w (x_ne (τ := (List Int))) (j_bool rd_b (j_ite (j_re (Γ' := [some (.sc script), some (.d (toD (x83 : Int))), some (.d (toD (v90.2 : (List Int)))), some (.d (toD (v89 : Int))), some (.d (toD (v90.1 : (List (List Int))))), none, none, some (.d (toD ((ys96.sum) : Int))), some (.d (toD (v97 : (List (List Int))))), some (.d (toD (x131 : Int))), some (.rs 3 (dD (v132 : (List ((Int × Int) × Int))))), none, none, none, none, none]) rfl (j_ret (j_c (j_retb (l := [0, 0, 0, 0, 0, 0, 0, 0, 0, 0, 0, 0, 0, 0, 0, 0]) sl_d rfl rfl)))) (j_seqNil (j_nxU (l := [0, 0, 0, 0, 0, 0, 0, 0, 0, 0, 0, 0, 0, 0, 0, 0]) rfl)))))))))))))))) (fun _ => rfl) (fun _ => rfl) (fun _ => rfl) (fun b => (j_flat (l := [0, 0, 0, 0, 0, 0, 0, 0, 0, 0, 0, 0, 0, 0, 0, 0]) rfl rfl)) (j_lockF (ks := [0, 1, 2, 3, 4, 5, 6, 7, 8, 9, 10, 13, 14, 15]) (Γk := [some (.sc script), some (.d (toD (x83 : Int))), some (.o (toD (v90.2 : (List Int)))), some (.d (toD (v89 : Int))), some (.d (toD (v90.1 : (List (List Int))))), some (.rs 3 (dD (v91 : (List ((Int × Int) × Int))))), some (.rs 3 (dD ((mergeTT ys94) : (List ((Int × Int) × Int))))), some (.d (toD ((ys96.sum) : Int))), some (.d (toD (v97 : (List (List Int))))), some (.d (toD (x131 : Int))), some (.rs 2 (dD (v132 : (List ((Int × Int) × Int))))), none, none, none, none, none]) (Γs := fun (_ : Unit) => [none, none, none, none, none, none, none, none, none, none, none, none, none, none, none, none]) (Γr := fun _ => [none, none, none, none, none, none, none, none, none, none, none, none, none, none, none, none]) (xr := fun b : Bool => (toD (b : Bool))) rfl (LdC.sc (LdC.d (LdC.o (LdC.d (LdC.d (LdC.no (LdC.no (LdC.d (LdC.d (LdC.d (LdC.no (LdC.no (LdC.no (LdC.no (LdC.no (LdC.no LdC.nil)))))))))))))))) rfl (j_last (j_re (Γ' := [some (.sc script), some (.d (toD (x83 : Int))), some (.d (toD (v90.2 : (List Int)))), some (.d (toD (v89 : Int))), some (.d (toD (v90.1 : (List (List Int))))), none, none, some (.d (toD ((ys96.sum) : Int))), some (.d (toD (v97 : (List (List Int))))), some (.d (toD (x131 : Int))), some (.rs 3 (dD (v132 : (List ((Int × Int) × Int))))), none, none, none, none, none]) rfl (j_seqFF (Γs := fun (s144 : Unit) => [some (.sc script), some (.d (toD (x83 : Int))), some (.d (toD (v90.2 : (List Int)))), some (.d (toD (v89 : Int))), some (.d (toD (v90.1 : (List (List Int))))), none, none, some (.d (toD ((ys96.sum) : Int))), some (.d (toD (v97 : (List (List Int))))), some (.d (toD (x131 : Int))), some (.rs 3 (dD (v132 : (List ((Int × Int) × Int))))), none, none, none, none, none]) (fun _ => rfl) (j_sFor (j_iKeysP (υ := Int) rfl (j_loop (l := [1, 1, 1, 1, 1, 0, 0, 1, 1, 1, 1, 0, 0, 0, 0, 0]) (D := toD) (Γs := fun (s144 : Unit) => [some (.sc script), some (.d (toD (x83 : Int))), some (.d (toD (v90.2 : (List Int)))), some (.d (toD (v89 : Int))), some (.d (toD (v90.1 : (List (List Int))))), none, none, some (.d (toD ((ys96.sum) : Int))), some (.d (toD (v97 : (List (List Int))))), some (.d (toD (x131 : Int))), some (.rs 3 (dD (v132 : (List ((Int × Int) × Int))))), none, none, none, none, none]) (()) rfl (fun _ => ⟨_, _, rfl⟩) (fun _ => rfl) fun s144 x145 => (j_gT2 (j_last (j_re (Γ' := [some (.sc script), some (.d (toD (x83 : Int))), some (.d (toD (v90.2 : (List Int)))), some (.d (toD (v89 : Int))), some (.d (toD (v90.1 : (List (List Int))))), none, none, some (.d (toD ((ys96.sum) : Int))), some (.d (toD (v97 : (List (List Int))))), some (.d (toD (x131 : Int))), some (.rs 3 (dD (v132 : (List ((Int × Int) × Int))))), some (.d (toD (x145.1 : Int))), some (.d (toD (x145.2 : Int))), none, none, none]) rfl (j_if (j_sub (bv := fun b151 : Bool => b151) (Γ1 := fun b151 : Bool => [some (.sc script), some (.d (toD (x83 : Int))), some (.d (toD (v90.2 : (List Int)))), some (.d (toD (v89 : Int))), some (.d (toD (v90.1 : (List (List Int))))), none, none, some (.d (toD ((ys96.sum) : Int))), some (.d (toD (v97 : (List (List Int))))), some (.d (toD (x131 : Int))), some (.rs 3 (dD (v132 : (List ((Int × Int) × Int))))), some (.d (toD (x145.1 : Int))), some (.d (toD (x145.2 : Int))), none, none, none]) (j_orC (j_not (j_test (j_callP (j_aP (j_var rfl (j_aPs (j_anil (j_callPop rfl (la_d rfl la_nil) rfl (sim__law_whole x145.1) (fun _ => rfl) fun v152 => (j_bool rd_b (j_ite (j_kb (l := [1, 1, 1, 1, 1, 0, 0, 1, 1, 1, 1, 1, 1, 0, 0, 0]) rfl rfl) (j_not (j_test (j_callP (j_aP (j_var rfl (j_aPs (j_anil (j_callPop rfl (la_d rfl la_nil) rfl (sim__law_whole x145.2) (fun _ => rfl) fun v153 => (j_bool rd_b (j_kb (l := [1, 1, 1, 1, 1, 0, 0, 1, 1, 1, 1, 1, 1, 0, 0, 0]) rfl rfl))))))))))))))))))))) fun b151 => (j_ite (j_re (Γ' := [some (.sc script), some (.d (toD (x83 : Int))), some (.d (toD (v90.2 : (List Int)))), some (.d (toD (v89 : Int))), some (.d (toD (v90.1 : (List (List Int))))), none, none, some (.d (toD ((ys96.sum) : Int))), some (.d (toD (v97 : (List (List Int))))), some (.d (toD (x131 : Int))), some (.rs 3 (dD (v132 : (List ((Int × Int) × Int))))), some (.d (toD (x145.1 : Int))), some (.d (toD (x145.2 : Int))), none, none, none]) rfl (j_ret (j_c (j_retb (l := [0, 0, 0, 0, 0, 0, 0, 0, 0, 0, 0, 0, 0, 0, 0, 0]) sl_d rfl rfl)))) (j_seqNil (j_nil (l := [1, 1, 1, 1, 1, 0, 0, 1, 1, 1, 1, 0, 0, 0, 0, 0]) rfl rfl))))))))))) fun s154 => (j_nxU (l := [0, 0, 0, 0, 0, 0, 0, 0, 0, 0, 0, 0, 0, 0, 0, 0]) rfl)))) (fun _ => rfl) (fun _ => rfl) (fun _ => rfl) (fun b => (j_flat (l := [0, 0, 0, 0, 0, 0, 0, 0, 0, 0, 0, 0, 0, 0, 0, 0]) rfl rfl)) (j_lockF (ks := [0, 1, 2, 3, 4, 5, 6, 7, 8, 9, 10, 11, 12, 13, 15]) (Γk := [some (.sc script), some (.d (toD (x83 : Int))), some (.o (toD (v90.2 : (List Int)))), some (.d (toD (v89 : Int))), some (.d (toD (v90.1 : (List (List Int))))), some (.rs 3 (dD (v91 : (List ((Int × Int) × Int))))), some (.rs 3 (dD ((mergeTT ys94) : (List ((Int × Int) × Int))))), some (.d (toD ((ys96.sum) : Int))), some (.d (toD (v97 : (List (List Int))))), some (.d (toD (x131 : Int))), some (.rs 2 (dD (v132 : (List ((Int × Int) × Int))))), none, none, none, none, none]) (Γs := fun (_ : Unit) => [none, none, none, none, none, none, none, none, none, none, none, none, none, none, none, none]) (Γr := fun _ => [none, none, none, none, none, none, none, none, none, none, none, none, none, none, none, none]) (xr := fun b : Bool => (toD (b : Bool))) rfl (LdC.sc (LdC.d (LdC.o (LdC.d (LdC.d (LdC.no (LdC.no (LdC.d (LdC.d (LdC.d (LdC.no (LdC.no (LdC.no (LdC.no (LdC.no (LdC.no LdC.nil)))))))))))))))) rfl (j_last (j_re (Γ' := [some (.sc script), some (.d (toD (x83 : Int))), some (.d (toD (v90.2 : (List Int)))), some (.d (toD (v89 : Int))), some (.d (toD (v90.1 : (List (List Int))))), none, none, some (.d (toD ((ys96.sum) : Int))), some (.d (toD (v97 : (List (List Int))))), some (.d (toD (x131 : Int))), some (.rs 3 (dD (v132 : (List ((Int × Int) × Int))))), none, none, none, none, none]) rfl (j_if (j_test (j_bin (j_lc (j_iKeysP (υ := Int) rfl (j_lcP (Γs := [some (.sc script), some (.d (toD (x83 : Int))), some (.d (toD (v90.2 : (List Int)))), some (.d (toD (v89 : Int))), some (.d (toD (v90.1 : (List (List Int))))), none, none, some (.d (toD ((ys96.sum) : Int))), some (.d (toD (v97 : (List (List Int))))), some (.d (toD (x131 : Int))), some (.rs 3 (dD (v132 : (List ((Int × Int) × Int))))), none, none, none, none, none]) (l := [1, 1, 1, 1, 1, 0, 0, 1, 1, 1, 1, 0, 0, 0, 0, 0]) (D := toD) (E := toD) (xr := fun a => toD a) (p := fun (x155 : (Int × Int)) => false) (q := fun (x155 : (Int × Int)) => x155) rfl rfl (fun x155 => (j_gN (j_not (j_test (j_isi (j_var rfl (j_isi2 (b := true) (rd_d rfl) rfl (j_bool rd_b (j_skip (l := [1, 1, 1, 1, 1, 0, 0, 1, 1, 1, 1, 0, 0, 0, 0, 0]) rfl rfl))))))))) (fun _ => rfl) fun ys156 => (j_lst (j_dnil (j_lst2 (toD (([] : (List (Int × Int))) : (List (Int × Int)))) rfl rfl (j_op rd_w rd_w (x_ne (τ := (List (Int × Int)))) (j_bool rd_b (j_ite (j_re (Γ' := [some (.sc script), some (.d (toD (x83 : Int))), some (.d (toD (v90.2 : (List Int)))), some (.d (toD (v89 : Int))), some (.d (toD (v90.1 : (List (List Int))))), none, none, some (.d (toD ((ys96.sum) : Int))), some (.d (toD (v97 : (List (List Int))))), some (.d (toD (x131 : Int))), some (.rs 3 (dD (v132 : (List ((Int × Int) × Int))))), none, none, none, none, none]) rfl (j_ret (j_c (j_retb (l := [0, 0, 0, 0, 0, 0, 0, 0, 0, 0, 0, 0, 0, 0, 0, 0]) sl_d rfl rfl)))) (j_seqNil (j_nxU (l := [0, 0, 0, 0, 0, 0, 0, 0, 0, 0, 0, 0, 0, 0, 0, 0]) rfl)))))))))))))))) (fun _ => rfl) (fun _ => rfl) (fun _ => rfl) (fun b => (j_flat (l := [0, 0, 0, 0, 0, 0, 0, 0, 0, 0, 0, 0, 0, 0, 0, 0]) rfl rfl)) (j_re (Γ' := [some (.sc script), some (.d (toD (x83 : Int))), some (.o (toD (v90.2 : (List Int)))), some (.d (toD (v89 : Int))), some (.d (toD (v90.1 : (List (List Int))))), some (.rs 3 (dD (v91 : (List ((Int × Int) × Int))))), some (.rs 3 (dD ((mergeTT ys94) : (List ((Int × Int) × Int))))), some (.d (toD ((ys96.sum) : Int))), some (.d (toD (v97 : (List (List Int))))), some (.d (toD (x131 : Int))), some (.rs 2 (dD (v132 : (List ((Int × Int) × Int))))), none, none, none, none, none]) rfl (j_expr (j_clrD (κ := (Int × Int)) (υ := Int) rfl (j_re (Γ' := [some (.sc script), some (.d (toD (x83 : Int))), some (.o (toD (v90.2 : (List Int)))), some (.d (toD (v89 : Int))), some (.d (toD (v90.1 : (List (List Int))))), some (.rs 3 (dD (v91 : (List ((Int × Int) × Int))))), some (.rs 3 (dD ((mergeTT ys94) : (List ((Int × Int) × Int))))), some (.d (toD ((ys96.sum) : Int))), some (.d (toD (v97 : (List (List Int))))), some (.d (toD (x131 : Int))), some (.rs 2 (dD (([] : (List ((Int × Int) × Int))) : (List ((Int × Int) × Int))))), none, none, none, none, none]) rfl (j_asg (j_callP (j_aP (j_var rfl (j_aPs (j_anil (j_callPop rfl (la_d rfl la_nil) rfl (sim_pair_sum v97) (fun _ => rfl) fun v157 => (j_fzb (fzb_of fz_b) (j_setD (j_last (j_re (Γ' := [some (.sc script), some (.d (toD (x83 : Int))), some (.o (toD (v90.2 : (List Int)))), some (.d (toD (v89 : Int))), some (.d (toD (v90.1 : (List (List Int))))), some (.rs 3 (dD (v91 : (List ((Int × Int) × Int))))), some (.rs 3 (dD ((mergeTT ys94) : (List ((Int × Int) × Int))))), some (.d (toD ((ys96.sum) : Int))), some (.d (toD (v97 : (List (List Int))))), some (.d (toD (x131 : Int))), some (.rs 2 (dD (([] : (List ((Int × Int) × Int))) : (List ((Int × Int) × Int))))), none, none, some (.d (toD (v157 : Int))), none, none]) rfl (j_if (j_sub (bv := fun b161 : Bool => b161) (Γ1 := fun b161 : Bool => [some (.sc script), some (.d (toD (x83 : Int))), some (.o (toD (v90.2 : (List Int)))), some (.d (toD (v89 : Int))), some (.d (toD (v90.1 : (List (List Int))))), some (.rs 3 (dD (v91 : (List ((Int × Int) × Int))))), some (.rs 3 (dD ((mergeTT ys94) : (List ((Int × Int) × Int))))), some (.d (toD ((ys96.sum) : Int))), some (.d (toD (v97 : (List (List Int))))), some (.d (toD (x131 : Int))), some (.rs 2 (dD (([] : (List ((Int × Int) × Int))) : (List ((Int × Int) × Int))))), none, none, some (.d (toD (v157 : Int))), none, none]) (j_orC (j_not (j_test (j_callP (j_aP (j_var rfl (j_aPs (j_anil (j_callPop rfl (la_d rfl la_nil) rfl (sim__law_whole v157) (fun _ => rfl) fun v162 => (j_bool rd_b (j_ite (j_kb (l := [1, 1, 1, 1, 1, 1, 1, 1, 1, 1, 1, 0, 0, 1, 0, 0]) rfl rfl) (j_orC (j_test (j_bin (j_var rfl (j_var rfl (j_op (rd_d rfl) (rd_d rfl) (x_ne (τ := Int)) (j_bool rd_b (j_ite (j_kb (l := [1, 1, 1, 1, 1, 1, 1, 1, 1, 1, 1, 0, 0, 1, 0, 0]) rfl rfl) (j_test (j_bin (j_var rfl (j_var rfl (j_op (rd_d rfl) (rd_d rfl) (x_ne (τ := (List (List Int)))) (j_bool rd_b (j_kb (l := [1, 1, 1, 1, 1, 1, 1, 1, 1, 1, 1, 0, 0, 1, 0, 0]) rfl rfl)))))))))))))))))))))))))) fun b161 => (j_ite (j_re (Γ' := [some (.sc script), some (.d (toD (x83 : Int))), some (.o (toD (v90.2 : (List Int)))), some (.d (toD (v89 : Int))), some (.d (toD (v90.1 : (List (List Int))))), some (.rs 3 (dD (v91 : (List ((Int × Int) × Int))))), some (.rs 3 (dD ((mergeTT ys94) : (List ((Int × Int) × Int))))), some (.d (toD ((ys96.sum) : Int))), some (.d (toD (v97 : (List (List Int))))), some (.d (toD (x131 : Int))), some (.rs 2 (dD (([] : (List ((Int × Int) × Int))) : (List ((Int × Int) × Int))))), none, none, some (.d (toD (v157 : Int))), none, none]) rfl (j_ret (j_c (j_retb (l := [0, 0, 0, 0, 0, 0, 0, 0, 0, 0, 0, 0, 0, 0, 0, 0]) sl_d rfl rfl)))) (j_seqNil (j_nil (l := [1, 1, 1, 1, 1, 1, 1, 1, 1, 0, 0, 0, 0, 0, 0, 0]) rfl rfl)))))))))))))))))))))))))))))))))))))))))))) fun s163 => (j_nil (l := [1, 0, 0, 0, 0, 0, 0, 0, 0, 0, 0, 0, 0, 0, 0, 0]) rfl rfl)))))))))))))))))))))))))))))))))))))))))))))))))))))))))))))))))))))))))))))))))))))))))))))))))))))))))))))))))))))))))))))))))))))))))))))))))) fun s164 => (j_last (j_re (Γ' := [some (.sc script), none, none, none, none, none, none, none, none, none, none, none, none, none, none, none]) rfl (j_ret (j_c (j_retb (l := [0, 0, 0, 0, 0, 0, 0, 0, 0, 0, 0, 0, 0, 0, 0, 0]) sl_d rfl rfl))))))) (fun a p hp => nomatch hp)
end K66
set_option maxRecDepth 100000
namespace K66
open PySem VL VP TM D PySem.SeqAt
open L2 (atI ixN)
variable {n : Nat} {xs ys zs : List Int} {d : List Int}
theorem stir_ok (c k : Int) : ∃ v, m__law_stir c k = .ok v := by
  unfold m__law_stir
  have a := Int.emod_nonneg ((((c % (2147483629 : Int)) + ((9973 : Int) * k)) + (5 : Int)) * (48271 : Int)) (b := 2147483647) (by decide)
  have b := Int.emod_lt_of_pos ((((c % (2147483629 : Int)) + ((9973 : Int) * k)) + (5 : Int)) * (48271 : Int)) (b := 2147483647) (by decide)
  generalize ((((c % (2147483629 : Int)) + ((9973 : Int) * k)) + (5 : Int)) * (48271 : Int)) % 2147483647 = z at *
  rw [mulI_l (by omega)]
  exact ⟨_, rfl⟩
def NxOk (d : List Int) : Prop := 1 ≤ d.length ∧ d.length ≤ 1000
theorem popL_of {l : List Int} (h : 1 ≤ l.length) : ∃ v, popL l = some (v, l.dropLast) := by
  unfold popL
  rw [List.getElem?_eq_getElem (by omega)]
  exact ⟨_, rfl⟩
theorem next_spec (h : NxOk d) : ∃ v d', m__law_next d = .ok (v, d') ∧ NxOk d' := by
  obtain ⟨h1, h2⟩ := h
  unfold m__law_next
  by_cases e : d.length = 1
  · rw [decide_eq_true (by omega : (d.length : Int) = 1), if_pos rfl]
    have a0 : atI d 0 = some (d[0]'(by omega)) := at_of (by decide) (by omega)
    obtain ⟨v, hv⟩ := stir_ok (d[0]'(by omega)) 7
    rw [a0, ob_some, hv, bind_ok, ob_some, mulI_r (by unfold b2i; split <;> decide), ob_some, insL_of (by decide) (by decide) (by unfold big; omega), ob_some, bind_ok]
    obtain ⟨u, hu⟩ := popL_of (l := List.take (0 : Int).toNat d ++ [v * b2i (decide ((0 : Int) < d[0]'(by omega)))] ++ List.drop (0 : Int).toNat d) (by simp)
    rw [hu, ob_some]
    refine ⟨_, _, rfl, ?_, ?_⟩ <;> (dsimp only; rw [List.length_dropLast]; simp [e])
  · rw [decide_eq_false (by omega : ¬ (d.length : Int) = 1), if_neg (by decide), bind_ok]
    obtain ⟨u, hu⟩ := popL_of h1
    rw [hu, ob_some]
    refine ⟨_, _, rfl, ?_, ?_⟩ <;> (dsimp only; rw [List.length_dropLast]; omega)
theorem deck_ok (c : Int) : Sat (m__law_deck c 760) NxOk := by
  unfold m__law_deck
  rw [show rg1 (760 : Int) = some (iota 760) from rg1_nat (n := 760) (by decide), ob_some]
  refine sat_bind (Q := fun s => s.1.length = 760) ?_ fun s hs => sat_ok ⟨by rw [List.length_reverse]; omega, by rw [List.length_reverse]; omega⟩
  have := sat_foldM (mb := fun (s8 : ((List Int) × Int)) (x9 : Int) =>
    R.bind (m__law_stir c x9) fun v10 =>
    R.bind (if (decide (((10 : Int) ^ ((18 : Int)).toNat) ≤ c)) = true then
    (.ok ((s8.2 % (720720 : Int))))
    else
    (.ok v10)) fun (s11 : Int) =>
    ob (appL s8.1 s11) fun v12 =>
    R.ok ((v12, (s8.2 / (720720 : Int))))) (fun k s => s.1.length = k) (iota 760) 0 ([], c) rfl fun i s hi hs => by
    generalize (iota 760)[i] = z
    rw [iota_len] at hi
    obtain ⟨v, hv⟩ := stir_ok c z
    rw [hv, bind_ok]
    refine sat_bind (Q := fun _ => True) (sat_ite (fun _ => sat_ok trivial) fun _ => sat_ok trivial) fun a _ => ?_
    rw [appL_of (by unfold big; omega), ob_some]
    exact sat_ok (by dsimp only; rw [List.length_append, List.length_singleton]; omega)
  rw [iota_len, Nat.zero_add] at this
  exact this
theorem emod_bd (a : Int) {b : Int} (h : 0 < b) : 0 ≤ a % b ∧ a % b < b := ⟨Int.emod_nonneg a (by omega), Int.emod_lt_of_pos a h⟩
theorem order_ok (hd : NxOk d) (h1 : 1 ≤ n) (h2 : n ≤ 12) : Sat (m__law_order d (n : Int)) fun r => IsOrd n r.1 ∧ NxOk r.2 := by
  unfold m__law_order
  rw [lrg1_nat (by omega), ob_some, rg1_nat (by omega), ob_some]
  have := sat_lcS (step := fun (s10 : ((List Int) × (List Int))) (x3 : Int) => R.calm (R.bind (m__law_next s10.1) fun v11 =>
    ob (modI v11.1 ((s10.2.length : Int))) fun v12 =>
    ob (popI s10.2 v12) fun v13 =>
    R.ok (some v13.1, (v11.2, v13.2)))) (fun k acc s => NxOk s.1 ∧ (acc ++ s.2).Perm (iota n) ∧ s.2.length + k = n) (iota n) 0 [] (d, iota n) (by simp) (by rw [iota_len]; unfold big; omega) ⟨hd, List.Perm.refl _, by dsimp only; rw [iota_len]; rfl⟩ fun i acc s hi hs => by
      obtain ⟨s1, s2⟩ := s
      obtain ⟨q1, q2, q3⟩ := hs
      rw [iota_len] at hi
      dsimp only at q1 q2 q3 ⊢
      obtain ⟨v, d', e1, ok'⟩ := next_spec q1
      obtain ⟨b0, b1⟩ := emod_bd v (b := (s2.length : Int)) (by omega)
      obtain ⟨x, ys, e2, p1, p2⟩ := popI_perm (xs := s2) b0 (by omega) (by unfold big; omega)
      refine sat_calm ?_
      rw [e1, bind_ok, modI_of (by omega), ob_some, e2, ob_some]
      refine sat_ok ⟨ok', ?_, by dsimp only; omega⟩
      refine List.Perm.trans ?_ q2
      rw [List.append_assoc]
      exact List.Perm.append_left acc p1
  refine sat_bind this fun r ⟨h1, h3, h4⟩ => sat_ok ⟨?_, h1⟩
  rw [iota_len, Nat.zero_add] at h4
  have h5 : r.2.2 = [] := List.eq_nil_of_length_eq_zero (by omega)
  rw [h5, List.append_nil] at h3
  exact h3
theorem near_ok (hd : NxOk d) (hx : IsOrd n xs) (h1 : 1 ≤ n) (h2 : n ≤ 12) : Sat (m__law_near d xs) fun r => IsOrd n r.1 ∧ NxOk r.2 := by
  unfold m__law_near
  have hl := hx.length
  obtain ⟨v, d1, e1, ok1⟩ := next_spec hd
  obtain ⟨w, d2, e2, ok2⟩ := next_spec ok1
  obtain ⟨a0, a1⟩ := emod_bd v (b := 3) (by decide)
  obtain ⟨b0, b1⟩ := emod_bd w (b := 4) (by decide)
  rw [e1, bind_ok]
  dsimp only
  rw [e2, bind_ok]
  dsimp only
  generalize v % 3 = v at *
  generalize w % 4 = w at *
  refine sat_bind (Q := fun (s : List Int × List Int) => IsOrd n s.2 ∧ NxOk s.1) ?_ fun s h => sat_ok h
  have hw : ∃ c : Int, atI ([(1 : Int), (1 : Int), (2 : Int), (4 : Int)]) w = some c ∧ 0 ≤ c ∧ c ≤ 4 := by
    have : w = 0 ∨ w = 1 ∨ w = 2 ∨ w = 3 := by omega
    rcases this with rfl | rfl | rfl | rfl
    · exact ⟨1, rfl, by decide, by decide⟩
    · exact ⟨1, rfl, by decide, by decide⟩
    · exact ⟨2, rfl, by decide, by decide⟩
    · exact ⟨4, rfl, by decide, by decide⟩
  obtain ⟨c, hc, c0, c1⟩ := hw
  rw [hc, ob_some, hl, mulI_l (by omega), ob_some]
  by_cases hn : n = 1
  · subst hn
    rw [show c * b2i (decide ((1 : Int) < ((1 : Nat) : Int))) = 0 by rw [show b2i (decide ((1 : Int) < ((1 : Nat) : Int))) = 0 by decide]; omega]
    exact sat_ok ⟨hx, ok2⟩
  rw [show b2i (decide ((1 : Int) < (n : Int))) = 1 by rw [decide_eq_true (by omega)]; rfl, rg1_of (by omega), ob_some]
  refine sat_fold (fun (s : List Int × List Int) => IsOrd n s.2 ∧ NxOk s.1) ⟨hx, ok2⟩ fun s x _ ⟨q1, q2⟩ => ?_
  have hl2 := q1.length
  obtain ⟨p, d3, e3, ok3⟩ := next_spec q2
  obtain ⟨q, d4, e4, ok4⟩ := next_spec ok3
  obtain ⟨p0, p1⟩ := emod_bd p (b := (s.2.length : Int) - 1) (by omega)
  obtain ⟨r0, r1⟩ := emod_bd q (b := (s.2.length : Int)) (by omega)
  rw [e3, bind_ok, modI_of (by omega), ob_some, e4, bind_ok, modI_of (by omega), ob_some]
  dsimp only
  generalize p % ((s.2.length : Int) - 1) = p at *
  generalize q % (s.2.length : Int) = q at *
  have hq : ∃ r : Int, atI [p + 1, q, p + 1] v = some r ∧ 0 ≤ r ∧ r < s.2.length := by
    have : v = 0 ∨ v = 1 ∨ v = 2 := by omega
    rcases this with rfl | rfl | rfl
    · exact ⟨p + 1, rfl, by omega, by omega⟩
    · exact ⟨q, rfl, by omega, by omega⟩
    · exact ⟨p + 1, rfl, by omega, by omega⟩
  obtain ⟨r, r4, r2, r3⟩ := hq
  rw [r4, ob_some]
  refine sat_bind (Q := fun (s : List Int × List Int) => IsOrd n s.2 ∧ NxOk s.1) ?_ fun s h => sat_ok h
  refine sat_ite (fun _ => ?_) fun _ => ?_
  · obtain ⟨a, b, ys, zs, g1, g2, g3, g4, g5⟩ := swap_ok (xs := s.2) (p := p) (q := r) p0 (by omega) r2 r3
    rw [g1, ob_some, g2, ob_some, g3, ob_some, g4, ob_some]
    exact sat_ok ⟨g5.trans q1, ok4⟩
  · obtain ⟨t, d5, e5, ok5⟩ := next_spec ok4
    obtain ⟨t0, t1⟩ := emod_bd t (b := (s.2.length : Int)) (by omega)
    obtain ⟨x, ys, g1, g2, g3⟩ := popI_perm (xs := s.2) (i := p) p0 (by omega) (by unfold big; omega)
    rw [e5, bind_ok, modI_of (by omega), ob_some, g1, ob_some]
    dsimp only
    rw [insL_of t0 (by omega) (by unfold big; omega), ob_some]
    refine sat_ok ⟨?_, ok5⟩
    refine List.Perm.trans ?_ (g2.trans q1)
    rw [List.append_assoc]
    refine List.Perm.trans List.perm_middle ?_
    exact List.Perm.cons x (by show (List.take _ ys ++ List.drop _ ys).Perm ys; rw [List.take_append_drop])
def PollOk (n : Nat) (poll : List (List Int)) : Prop := 1 ≤ poll.length ∧ poll.length ≤ 20 ∧ ∀ o ∈ poll, IsOrd n o
theorem poll_ok {most : Int} (hm1 : 1 ≤ most) (hm2 : most ≤ 20) (hd : NxOk d) (h1 : 1 ≤ n) (h2 : n ≤ 12) : Sat (m__law_poll d (n : Int) most) fun r => PollOk n r.1 ∧ NxOk r.2 := by
  unfold m__law_poll
  refine sat_bind (order_ok hd h1 h2) fun r1 ⟨hx, ok1⟩ => ?_
  obtain ⟨v, d2, e2, ok2⟩ := next_spec ok1
  obtain ⟨a, d3, e3, ok3⟩ := next_spec ok2
  obtain ⟨b, d4, e4, ok4⟩ := next_spec ok3
  obtain ⟨c, d5, e5, ok5⟩ := next_spec ok4
  obtain ⟨v0, v1⟩ := emod_bd v (b := 4) (by decide)
  have hm4 : 1 ≤ min2 most 4 ∧ min2 most 4 ≤ 4 := by unfold min2; split <;> omega
  generalize min2 most 4 = m4 at hm4 ⊢
  obtain ⟨a0, a1⟩ := emod_bd a (b := most) (by omega)
  obtain ⟨b0, b1⟩ := emod_bd b (b := m4) (by omega)
  obtain ⟨c0, c1⟩ := emod_bd c (b := 3) (by decide)
  rw [e2, bind_ok]
  dsimp only
  rw [e3, bind_ok, modI_of (by omega), ob_some]
  dsimp only
  rw [e4, bind_ok, modI_of (by omega), ob_some]
  dsimp only
  rw [e5, bind_ok]
  dsimp only
  generalize v % 4 = v at *
  generalize a % most = a at *
  generalize b % m4 = b at *
  generalize c % 3 = c at *
  have hk : ∃ k : Nat, atI ([a, (most - (1 : Int)), b]) c = some (k : Int) ∧ k ≤ 19 := by
    have : c = 0 ∨ c = 1 ∨ c = 2 := by omega
    rcases this with rfl | rfl | rfl
    · exact ⟨a.toNat, by rw [Int.toNat_of_nonneg a0]; rfl, by omega⟩
    · exact ⟨(most - 1).toNat, by rw [Int.toNat_of_nonneg (by omega)]; rfl, by omega⟩
    · exact ⟨b.toNat, by rw [Int.toNat_of_nonneg b0]; rfl, by omega⟩
  obtain ⟨k, k1, k2⟩ := hk
  rw [k1, ob_some, rg1_nat (by omega), ob_some]
  refine sat_bind (Q := fun (s : List Int × List (List Int)) => PollOk n s.2 ∧ NxOk s.1) ?_ fun s h => sat_ok h
  have key := sat_foldM (mb := fun (s36 : ((List Int) × (List (List Int)))) (x37 : Int) =>
    R.bind (m__law_next s36.1) fun v38 =>
    ob (modI v38.1 (n : Int)) fun v39 =>
    R.bind (m__law_near v38.2 r1.1) fun v40 =>
    R.bind (m__law_order v40.2 (n : Int)) fun v41 =>
    ob (addL ((cutD r1.1 (some v39) none)) ((cutD r1.1 none (some v39)))) fun v42 =>
    R.bind (m__law_next v41.2) fun v43 =>
    ob (modI v43.1 ((s36.2.length : Int))) fun v44 =>
    ob (atI s36.2 v44) fun v45 =>
    ob (appL ([v40.1, v41.1, v42, (r1.1.reverse)]) v45) fun v46 =>
    R.bind (m__law_next v43.2) fun v47 =>
    ob (atI ([(0 : Int), (1 : Int), (2 : Int), (v47.1 % (5 : Int))]) v) fun v48 =>
    ob (atI v46 v48) fun v49 =>
    ob (appL s36.2 v49) fun v50 =>
    R.ok ((v47.2, v50))) (fun k s => (s.2.length = k + 1 ∧ ∀ o ∈ s.2, IsOrd n o) ∧ NxOk s.1) (iota k) 0 (d5, [r1.1]) ⟨⟨rfl, fun o ho => by rw [List.mem_singleton.mp ho]; exact hx⟩, ok5⟩ fun i s hi ⟨⟨q1, q2⟩, q3⟩ => by
      rw [iota_len] at hi
      obtain ⟨a, d1, e1, ok1⟩ := next_spec q3
      obtain ⟨a0, a1⟩ := emod_bd a (b := (n : Int)) (by omega)
      rw [e1, bind_ok, modI_of (by omega), ob_some]
      refine sat_bind (near_ok ok1 hx h1 h2) fun r2 ⟨hy, ok2⟩ => ?_
      refine sat_bind (order_ok ok2 h1 h2) fun r3 ⟨hz, ok3⟩ => ?_
      dsimp only
      generalize a % (n : Int) = a at *
      have hl := hx.length
      rw [cut_drop _ a0, cut_take _ a0, addL_of (by rw [List.length_drop, List.length_take]; unfold big; omega), ob_some]
      obtain ⟨b, d4, e4, ok4⟩ := next_spec ok3
      obtain ⟨b0, b1⟩ := emod_bd b (b := (s.2.length : Int)) (by omega)
      rw [e4, bind_ok, modI_of (by omega), ob_some]
      dsimp only
      generalize b % (s.2.length : Int) = b at *
      rw [at_of b0 b1, ob_some, appL_of (by simp [big]), ob_some]
      obtain ⟨c, d5, e5, ok5⟩ := next_spec ok4
      obtain ⟨c0, c1⟩ := emod_bd c (b := 5) (by decide)
      rw [e5, bind_ok]
      dsimp only
      generalize c % 5 = c at *
      have hk : ∃ j : Int, atI ([(0 : Int), (1 : Int), (2 : Int), c]) v = some j ∧ 0 ≤ j ∧ j < 5 := by
        have : v = 0 ∨ v = 1 ∨ v = 2 ∨ v = 3 := by omega
        rcases this with rfl | rfl | rfl | rfl
        · exact ⟨0, rfl, by decide, by decide⟩
        · exact ⟨1, rfl, by decide, by decide⟩
        · exact ⟨2, rfl, by decide, by decide⟩
        · exact ⟨c, rfl, c0, c1⟩
      obtain ⟨j, j1, j2, j3⟩ := hk
      rw [j1, ob_some, at_of j2 (by simp; omega), ob_some, appL_of (by unfold big; omega), ob_some]
      refine sat_ok ⟨⟨by dsimp only; rw [List.length_append, List.length_singleton]; omega, fun o ho => ?_⟩, ok5⟩
      rcases List.mem_append.mp ho with ho | ho
      · exact q2 o ho
      · rw [List.mem_singleton] at ho
        subst ho
        have := List.getElem_mem (l := [r2.1, r3.1, List.drop a.toNat r1.1 ++ List.take a.toNat r1.1, r1.1.reverse] ++ [s.2[b.toNat]'(by omega)]) (n := j.toNat) (by simp; omega)
        generalize ([r2.1, r3.1, List.drop a.toNat r1.1 ++ List.take a.toNat r1.1, r1.1.reverse] ++ [s.2[b.toNat]'(by omega)])[j.toNat]'(by simp; omega) = o at *
        simp only [List.cons_append, List.nil_append, List.mem_cons, List.not_mem_nil, or_false] at this
        rcases this with rfl | rfl | rfl | rfl | rfl
        · exact hy
        · exact hz
        · exact (turn_perm _ _).trans hx
        · exact rev_ord hx
        · exact q2 _ (List.getElem_mem _)
  refine key.mono fun s ⟨⟨q1, q2⟩, q3⟩ => ⟨⟨?_, ?_, q2⟩, q3⟩ <;> rw [iota_len] at q1 <;> omega
end K66
set_option maxRecDepth 100000
namespace K66
open PySem VL VP TM D PySem.SeqAt
open L2 (atI ixN)
variable {n : Nat} {xs ys zs o : List Int} {poll : List (List Int)}
def cnt (poll : List (List Int)) (i j : Nat) : Nat := (poll.filter fun o => decide (pl o i < pl o j)).length
def mat (n : Nat) (F : Nat → Nat → Int) : List (List Int) := (List.range n).map fun i => (List.range n).map fun j => F i j
theorem mat_congr {F G : Nat → Nat → Int} (h : ∀ i j, i < n → j < n → F i j = G i j) : mat n F = mat n G := by
  unfold mat
  refine List.map_congr_left fun i hi => List.map_congr_left fun j hj => h i j (List.mem_range.mp hi) (List.mem_range.mp hj)
theorem mat_row {F : Nat → Nat → Int} {i : Nat} (h : i < n) : atI (mat n F) (i : Int) = some ((List.range n).map fun j => F i j) := by
  rw [at_nat (by unfold mat; rw [List.length_map, List.length_range]; exact h)]
  unfold mat
  rw [List.getElem_map, List.getElem_range]
theorem row_at {f : Nat → Int} {j : Nat} (h : j < n) : atI ((List.range n).map f) (j : Int) = some (f j) := by
  rw [at_nat (by rw [List.length_map, List.length_range]; exact h), List.getElem_map, List.getElem_range]
theorem mat_get {F : Nat → Nat → Int} {i : Nat} (h : i < (mat n F).length) : (mat n F)[i] = (List.range n).map fun j => F i j := by
  have : (mat n F)[i]? = some ((List.range n).map fun j => F i j) := by
    have hi : i < n := by unfold mat at h; rwa [List.length_map, List.length_range] at h
    unfold mat
    rw [List.getElem?_map, List.getElem?_range hi]
    rfl
  rw [List.getElem?_eq_getElem h] at this
  exact Option.some.inj this
theorem aug_mat {F : Nat → Nat → Int} {a b : Nat} (ha : a < n) (hb : b < n) : augLL (mat n F) (a : Int) (b : Int) 1 = some (mat n fun i j => F i j + if i = a ∧ j = b then 1 else 0) := by
  have la : (mat n F).length = n := by unfold mat; rw [List.length_map, List.length_range]
  unfold augLL
  rw [la, TM.ixN_of (by omega) (by omega), Option.bind_some, Int.toNat_natCast]
  have hr : (mat n F)[a]? = some ((List.range n).map fun j => F a j) := by
    unfold mat
    rw [List.getElem?_map, List.getElem?_range ha]
    rfl
  rw [hr, Option.bind_some]
  unfold augL
  rw [List.length_map, List.length_range, TM.ixN_of (by omega) (by omega), Option.bind_some, Int.toNat_natCast, List.getElem?_map, List.getElem?_range hb]
  show some ((mat n F).set a (((List.range n).map fun j => F a j).set b (F a b + 1))) = _
  congr 1
  apply List.ext_getElem
  · rw [List.length_set, la]; unfold mat; rw [List.length_map, List.length_range]
  · intro i h3 h4
    rw [List.length_set, la] at h3
    rw [List.getElem_set]
    by_cases e : a = i
    · subst e
      rw [if_pos rfl, mat_get]
      apply List.ext_getElem
      · rw [List.length_set, List.length_map, List.length_map]
      · intro j h5 h6
        rw [List.getElem_set]
        by_cases e2 : b = j
        · subst e2
          rw [if_pos rfl, List.getElem_map, List.getElem_range, if_pos ⟨rfl, rfl⟩]
        · rw [if_neg e2, List.getElem_map, List.getElem_map, List.getElem_range, if_neg fun z => e2 z.2.symm]
          omega
    · rw [if_neg e, mat_get, mat_get]
      refine List.map_congr_left fun j _ => ?_
      rw [if_neg fun z => e z.1.symm]
      omega
theorem ahead_in_ok (hp : PollOk n poll) (h1 : 1 ≤ n) (h2 : n ≤ 12) : m_ahead_in poll = .ok (mat n fun i j => ((cnt poll i j : Nat) : Int)) := by
  obtain ⟨p1, p2, p3⟩ := hp
  have hb : big = 1000000 := rfl
  have a0 : atI poll 0 = some (poll[0]'(by omega)) := at_of (by decide) (by omega)
  have l0 := (p3 _ (List.getElem_mem (by omega : 0 < poll.length))).length
  refine Sat.eq ?_
  unfold m_ahead_in
  rw [a0, ob_some, l0, rg1_nat (by omega), ob_some, lcM_map (step := fun (x3 : Int) => ob (mulL ([(0 : Int)]) (n : Int)) fun v4 => .ok (some v4)) (fun _ => List.replicate n 0) (by rw [iota_len]; omega) (fun x _ => by rw [mulL_zeros (by omega), ob_some]), bind_ok]
  have e0 : (iota n).map (fun _ => List.replicate n (0 : Int)) = mat n fun _ _ => 0 := by
    unfold mat iota
    rw [List.map_map]
    refine List.map_congr_left fun i _ => ?_
    apply List.ext_getElem
    · rw [List.length_map, List.length_range]; exact List.length_replicate
    · intro j h3 h4
      rw [List.getElem_map]
      exact List.getElem_replicate _
  rw [e0]
  refine sat_bind (Q := fun s => s = mat n fun i j => ((cnt poll i j : Nat) : Int)) ?_ fun s hs => sat_ok hs
  refine Sat.mono (sat_foldM (fun k s => s = mat n fun i j => ((cnt (poll.take k) i j : Nat) : Int)) poll 0 _ (by rw [List.take_zero]; rfl) fun k s hk hs => ?_) fun s hs => by
    rw [Nat.zero_add, List.take_length] at hs
    exact hs
  rw [Nat.zero_add] at *
  subst hs
  have oo := p3 _ (List.getElem_mem hk)
  have ek : ∀ i j, cnt (poll.take (k + 1)) i j = cnt (poll.take k) i j + bn (decide (pl poll[k] i < pl poll[k] j)) := fun i j => by
    unfold cnt
    rw [List.take_add_one, List.getElem?_eq_getElem hk, List.filter_append, List.length_append]
    congr 1
    show ([poll[k]].filter _).length = _
    rw [List.filter_cons]
    cases decide (pl poll[k] i < pl poll[k] j) <;> rfl
  generalize poll[k] = o at *
  have lo := oo.length
  have og : ∀ p (hp : p < n), o[p]'(by omega) = ((th o p : Nat) : Int) := fun p hp => by
    have := ord_get oo hp
    rw [List.getElem?_eq_getElem (by omega)] at this
    exact Option.some.inj this
  refine sat_bind (Q := fun s => s = mat n fun i j => ((cnt (poll.take (k + 1)) i j : Nat) : Int)) ?_ fun s hs => sat_ok hs
  refine Sat.mono (sat_foldM (fun p s => s = mat n fun i j => ((cnt (poll.take k) i j : Nat) : Int) + ((bn (decide (pl o i < p ∧ pl o i < pl o j)) : Nat) : Int)) (enumT 0 o) 0 _ (mat_congr fun i j _ _ => by rw [decide_eq_false (by omega)]; simp [bn]) fun p s hp hs => ?_) fun s hs => by
    rw [hs, enumT_len, Nat.zero_add, lo]
    refine mat_congr fun i j hi hj => ?_
    rw [ek, Int.natCast_add]
    congr 3
    exact decide_eq_decide.mpr ⟨fun h => h.2, fun h => ⟨pl_lt oo hi, h⟩⟩
  rw [enumT_len] at hp
  rw [Nat.zero_add] at *
  subst hs
  rw [enumT_get, og p (by omega)]
  dsimp only
  rw [cut_drop _ (by omega), show ((((0 + p : Nat) : Int) + 1)).toNat = p + 1 by omega]
  have hdl : o.drop (p + 1) = (List.range (n - (p + 1))).map fun i => ((th o (p + 1 + i) : Nat) : Int) := by
    apply List.ext_getElem
    · rw [List.length_drop, List.length_map, List.length_range, lo]
    · intro i h3 h4
      rw [List.length_drop] at h3
      rw [List.getElem_drop, List.getElem_map, List.getElem_range, og _ (by omega)]
  rw [hdl]
  refine sat_bind (Q := fun s => s = mat n fun i j => ((cnt (poll.take k) i j : Nat) : Int) + ((bn (decide (pl o i < p + 1 ∧ pl o i < pl o j)) : Nat) : Int)) ?_ fun s hs => sat_ok hs
  refine Sat.mono (sat_foldM (fun q s => s = mat n fun i j => ((cnt (poll.take k) i j : Nat) : Int) + ((bn (decide ((pl o i < p ∧ pl o i < pl o j) ∨ (pl o i = p ∧ p < pl o j ∧ pl o j < p + 1 + q))) : Nat) : Int)) _ 0 _ (mat_congr fun i j _ _ => by
      congr 3
      exact decide_eq_decide.mpr (by omega)) fun q s hq hs => ?_) fun s hs => by
    rw [hs]
    refine mat_congr fun i j hi hj => ?_
    congr 3
    rw [List.length_map, List.length_range]
    have := pl_lt oo hj
    exact decide_eq_decide.mpr (by omega)
  rw [List.length_map, List.length_range] at hq
  rw [Nat.zero_add] at *
  subst hs
  rw [List.getElem_map, List.getElem_range, aug_mat (th_lt oo (by omega)) (th_lt oo (by omega)), ob_some]
  refine sat_ok (mat_congr fun i j hi hj => ?_)
  have f1 : i = th o p ↔ pl o i = p := ⟨fun h => by rw [h, pl_th oo (by omega)], fun h => by rw [← h, th_pl oo hi]⟩
  have f2 : j = th o (p + 1 + q) ↔ pl o j = p + 1 + q := ⟨fun h => by rw [h, pl_th oo (by omega)], fun h => by rw [← h, th_pl oo hj]⟩
  rw [Int.add_assoc]
  congr 1
  by_cases c : i = th o p ∧ j = th o (p + 1 + q)
  · rw [if_pos c]
    have c1 := f1.mp c.1
    have c2 := f2.mp c.2
    rw [decide_eq_false (by omega), decide_eq_true (by omega)]
    rfl
  · rw [if_neg c]
    have : ¬ (pl o i = p ∧ pl o j = p + 1 + q) := fun z => c ⟨f1.mpr z.1, f2.mpr z.2⟩
    rw [Int.add_zero]
    congr 2
    exact decide_eq_decide.mpr (by omega)
end K66
set_option maxRecDepth 100000
namespace K66
open PySem VL VP TM D PySem.SeqAt
open PySem.W.Datum (toD)
open L2 (atI ixN)
variable {n : Nat} {poll : List (List Int)} {o xs ys d : List Int} {w : Way} {c g : Nat → Nat → Nat}
theorem need_poll_ok (hp : PollOk n poll) (h1 : 1 ≤ n) (h2 : n ≤ 12) : m_need_poll poll = .ok () := by
  have hb : big = 1000000 := rfl
  obtain ⟨p1, p2, p3⟩ := id hp
  have hl : poll.length ≤ big := by omega
  have a0 : atI poll 0 = some (poll[0]'(by omega)) := at_of (by decide) (by omega)
  unfold m_need_poll
  rw [decide_eq_true (by omega : (1 : Int) ≤ poll.length), decide_eq_true (by omega : (poll.length : Int) ≤ 20)]
  rw [if_neg (by decide)]
  rw [lcM_eq (step := fun (x1 : List Int) => R.bind (m_is_order x1) fun v2 => if (!v2) = true then (.ok (some x1)) else (.ok none)) (fun _ => false) (fun x => x) hl (fun x hx => by
    rw [is_order_ok (p3 x hx) h1 (by omega)]; rfl), List.filter_eq_nil_iff.mpr (fun _ _ => by decide)]
  rw [List.map_nil, bind_ok, decide_eq_true rfl, if_neg (by decide), a0]
  rw [lcM_eq (step := fun (x4 : List Int) => ob (some poll[0]) fun v5 => if (!decide ((x4.length : Int) = (v5.length : Int))) = true then (.ok (some x4)) else (.ok none)) (fun _ => false) (fun x => x) hl (fun x hx => by
    rw [ob_some, (p3 x hx).length, (p3 _ (List.getElem_mem _)).length, decide_eq_true rfl]; rfl), List.filter_eq_nil_iff.mpr (fun _ _ => by decide)]
  rw [List.map_nil, bind_ok, decide_eq_true rfl, if_neg (by decide)]
def rowP (n : Nat) (c : Nat → Nat → Nat) (i : Nat) : List ((Int × Int) × Int) := (List.range' (i + 1) (n - (i + 1))).map fun (j : Nat) => (((i : Int), (j : Int)), ((c i j : Nat) : Int))
def PA (n : Nat) (c : Nat → Nat → Nat) (m : Nat) : List ((Int × Int) × Int) := (List.range m).flatMap (rowP n c)
theorem mem_rowP {i : Nat} {p : (Int × Int) × Int} : p ∈ rowP n c i ↔ ∃ j : Nat, i < j ∧ j < n ∧ p = (((i : Int), (j : Int)), ((c i j : Nat) : Int)) := by
  unfold rowP
  rw [List.mem_map]
  constructor
  · rintro ⟨j, hj, rfl⟩
    rw [List.mem_range'_1] at hj
    exact ⟨j, by omega, by omega, rfl⟩
  · rintro ⟨j, h1, h2, rfl⟩
    exact ⟨j, by rw [List.mem_range'_1]; omega, rfl⟩
theorem mem_PA {m : Nat} {p : (Int × Int) × Int} : p ∈ PA n c m ↔ ∃ i j : Nat, i < m ∧ i < j ∧ j < n ∧ p = (((i : Int), (j : Int)), ((c i j : Nat) : Int)) := by
  unfold PA
  rw [List.mem_flatMap]
  constructor
  · rintro ⟨i, hi, h⟩
    obtain ⟨j, h1, h2, e⟩ := mem_rowP.mp h
    exact ⟨i, j, List.mem_range.mp hi, h1, h2, e⟩
  · rintro ⟨i, j, hi, h1, h2, e⟩
    exact ⟨i, List.mem_range.mpr hi, mem_rowP.mpr ⟨j, h1, h2, e⟩⟩
theorem look_PA {i j : Nat} (hij : i < j) (hj : j < n) : lookT (PA n c n) ((i : Int), (j : Int)) = some ((c i j : Nat) : Int) := by
  unfold lookT
  cases q : (PA n c n).find? fun p => decide (p.1 = ((i : Int), (j : Int))) with
  | none =>
    have := List.find?_eq_none.mp q _ (mem_PA.mpr ⟨i, j, by omega, hij, hj, rfl⟩)
    exact absurd (decide_eq_true rfl) this
  | some p =>
    obtain ⟨i', j', _, _, _, rfl⟩ := mem_PA.mp (List.mem_of_find?_eq_some q)
    have h := List.find?_some q
    have h2 := of_decide_eq_true h
    have e1 : (i' : Int) = i := congrArg Prod.fst h2
    have e2 : (j' : Int) = j := congrArg Prod.snd h2
    obtain rfl : i' = i := by omega
    obtain rfl : j' = j := by omega
    rfl
theorem put_new {D : List ((Int × Int) × Int)} {k : Int × Int} {v : Int} (h : ∀ p ∈ D, p.1 ≠ k) (hl : D.length < 1000) : putG D k v = some (D ++ [(k, v)]) := by
  unfold putG
  rw [if_pos (by unfold big; omega)]
  congr 1
  unfold putT
  rw [if_neg]
  intro hc
  obtain ⟨p, hp, e⟩ := List.any_eq_true.mp hc
  exact h p hp (of_decide_eq_true e)
theorem row_le (i : Nat) : (rowP n c i).length ≤ n := by unfold rowP; rw [List.length_map, List.length_range']; omega
theorem PA_le : ∀ m : Nat, (PA n c m).length ≤ m * n
  | 0 => Nat.zero_le _
  | m + 1 => by
    unfold PA
    rw [List.range_succ, List.flatMap_append, List.length_append]
    have := PA_le m
    unfold PA at this
    have h2 : ([m].flatMap (rowP n c)).length ≤ n := by
      rw [List.flatMap_cons, List.flatMap_nil, List.append_nil]; exact row_le m
    rw [Nat.succ_mul]
    omega
theorem pairs_ok (hp : PollOk n poll) (h1 : 1 ≤ n) (h2 : n ≤ 12) : m_pairs_ahead poll = .ok (PA n (cnt poll) n) := by
  have hb : big = 1000000 := rfl
  have lm : (mat n fun i j => ((cnt poll i j : Nat) : Int)).length = n := by unfold mat; rw [List.length_map, List.length_range]
  refine Sat.eq ?_
  unfold m_pairs_ahead
  rw [need_poll_ok hp h1 h2, bind_ok, ahead_in_ok hp h1 h2, bind_ok, lm, rg1_nat (by omega), ob_some]
  refine sat_bind (Q := fun s => s = PA n (cnt poll) n) (Sat.mono (sat_foldM (fun k (s : List ((Int × Int) × Int)) => s = PA n (cnt poll) k) (iota n) 0 [] rfl fun k s hk hs => ?_) fun s hs => by rw [iota_len, Nat.zero_add] at hs; exact hs) fun s hs => sat_ok hs
  rw [iota_len] at hk
  rw [iota_get, Nat.zero_add] at *
  subst hs
  rw [show ((k : Int) + 1) = ((k + 1 : Nat) : Int) by omega, rg2_of (by omega) (by omega), ob_some]
  have hk12 : k * n ≤ 12 * 12 := Nat.mul_le_mul (by omega) h2
  have hle := PA_le (n := n) (c := cnt poll) k
  refine sat_bind (Q := fun s => s = PA n (cnt poll) (k + 1)) (Sat.mono (sat_foldM (fun j (s : List ((Int × Int) × Int)) => s = PA n (cnt poll) k ++ (rowP n (cnt poll) k).take j) _ 0 _ (by rw [List.take_zero, List.append_nil]) fun j s hj hs => ?_) fun s hs => ?_) fun s hs => sat_ok hs
  · rw [rngL_len] at hj
    have hj' : j < n - (k + 1) := by omega
    rw [Nat.zero_add] at *
    subst hs
    rw [rngL_get]
    rw [show ((k + 1 : Nat) : Int) + (j : Int) = ((k + 1 + j : Nat) : Int) by omega, mat_row hk, ob_some, row_at (by omega), ob_some]
    have hr : (rowP n (cnt poll) k).length = n - (k + 1) := by unfold rowP; rw [List.length_map, List.length_range']
    have hg : (rowP n (cnt poll) k)[j]'(by omega) = (((k : Int), ((k + 1 + j : Nat) : Int)), ((cnt poll k (k + 1 + j) : Nat) : Int)) := by
      unfold rowP
      rw [List.getElem_map, List.getElem_range']
      simp only [Nat.one_mul]
    rw [put_new (fun p hp e => ?_) (by rw [List.length_append, List.length_take]; omega), ob_some]
    · refine sat_ok ?_
      rw [List.append_assoc, List.take_succ_eq_append_getElem (by omega : j < (rowP n (cnt poll) k).length), hg]
    · rcases List.mem_append.mp hp with hp | hp
      · obtain ⟨i', j', h3, _, _, rfl⟩ := mem_PA.mp hp
        have e1 : (i' : Int) = k := congrArg Prod.fst e
        omega
      · obtain ⟨q, hq, e3⟩ := List.mem_take_iff_getElem.mp hp
        have hq' : q < j := by omega
        have hgq : (rowP n (cnt poll) k)[q]'(by omega) = (((k : Int), ((k + 1 + q : Nat) : Int)), ((cnt poll k (k + 1 + q) : Nat) : Int)) := by
          unfold rowP
          rw [List.getElem_map, List.getElem_range']
          simp only [Nat.one_mul]
        rw [hgq] at e3
        subst e3
        have e2 : (((k + 1 + q : Nat)) : Int) = ((k + 1 + j : Nat) : Int) := congrArg Prod.snd e
        omega
  · rw [rngL_len] at hs
    rw [hs, List.take_of_length_le (by unfold rowP; rw [List.length_map, List.length_range']; omega)]
    unfold PA
    rw [List.range_succ, List.flatMap_append, List.flatMap_cons, List.flatMap_nil, List.append_nil]
end K66
set_option maxRecDepth 100000
namespace K66
open PySem VL VP TM D PySem.SeqAt
open PySem.W.Datum (toD)
open L2 (atI ixN)
variable {n : Nat} {poll : List (List Int)} {o xs ys d : List Int} {c g : Nat → Nat → Nat}
theorem places_ok (h : IsOrd n xs) (h2 : n ≤ 12) : Sat (m__law_places xs) fun d => ∀ t : Nat, t < n → lookT d (t : Int) = some ((pl xs t : Nat) : Int) := by
  unfold m__law_places
  exact sat_bind (places_of (fun _ _ => rfl) h (by omega)) fun s hs => sat_ok hs
def FP (o : List Int) : List (Int × Int) := match m__law_places o with
  | .ok d => d
  | _ => []
theorem FP_ok (h : IsOrd n o) (h2 : n ≤ 12) : m__law_places o = .ok (FP o) ∧ ∀ t : Nat, t < n → lookT (FP o) (t : Int) = some ((pl o t : Nat) : Int) := by
  obtain ⟨d, e, hd⟩ := places_ok h h2
  unfold FP
  rw [e]
  exact ⟨rfl, hd⟩
def rowA (n : Nat) (c : Nat → Nat → Nat) (i : Nat) : List ((Int × Int) × Int) := (List.range n).map fun (j : Nat) => (((i : Int), (j : Int)), ((c i j : Nat) : Int))
def AH (n : Nat) (c : Nat → Nat → Nat) (m : Nat) : List ((Int × Int) × Int) := (List.range m).flatMap (rowA n c)
theorem mem_rowA {i : Nat} {p : (Int × Int) × Int} : p ∈ rowA n c i ↔ ∃ j : Nat, j < n ∧ p = (((i : Int), (j : Int)), ((c i j : Nat) : Int)) := by
  unfold rowA
  rw [List.mem_map]
  constructor
  · rintro ⟨j, hj, rfl⟩
    exact ⟨j, List.mem_range.mp hj, rfl⟩
  · rintro ⟨j, h1, rfl⟩
    exact ⟨j, List.mem_range.mpr h1, rfl⟩
theorem mem_AH {m : Nat} {p : (Int × Int) × Int} : p ∈ AH n c m ↔ ∃ i j : Nat, i < m ∧ j < n ∧ p = (((i : Int), (j : Int)), ((c i j : Nat) : Int)) := by
  unfold AH
  rw [List.mem_flatMap]
  constructor
  · rintro ⟨i, hi, h⟩
    obtain ⟨j, h1, e⟩ := mem_rowA.mp h
    exact ⟨i, j, List.mem_range.mp hi, h1, e⟩
  · rintro ⟨i, j, hi, h1, e⟩
    exact ⟨i, List.mem_range.mpr hi, mem_rowA.mpr ⟨j, h1, e⟩⟩
theorem look_AH {i j : Nat} (hi : i < n) (hj : j < n) : lookT (AH n c n) ((i : Int), (j : Int)) = some ((c i j : Nat) : Int) := by
  unfold lookT
  cases q : (AH n c n).find? fun p => decide (p.1 = ((i : Int), (j : Int))) with
  | none =>
    have := List.find?_eq_none.mp q _ (mem_AH.mpr ⟨i, j, hi, hj, rfl⟩)
    exact absurd (decide_eq_true rfl) this
  | some p =>
    obtain ⟨i', j', _, _, rfl⟩ := mem_AH.mp (List.mem_of_find?_eq_some q)
    have h := List.find?_some q
    have h2 := of_decide_eq_true h
    have e1 : (i' : Int) = i := congrArg Prod.fst h2
    have e2 : (j' : Int) = j := congrArg Prod.snd h2
    obtain rfl : i' = i := by omega
    obtain rfl : j' = j := by omega
    rfl
theorem AH_le : ∀ m : Nat, (AH n c m).length ≤ m * n
  | 0 => Nat.zero_le _
  | m + 1 => by
    unfold AH
    rw [List.range_succ, List.flatMap_append, List.length_append]
    have := AH_le m
    unfold AH at this
    have h2 : ([m].flatMap (rowA n c)).length ≤ n := by
      rw [List.flatMap_cons, List.flatMap_nil, List.append_nil]
      unfold rowA
      rw [List.length_map, List.length_range]
      omega
    rw [Nat.succ_mul]
    omega
theorem count_ok (hp : PollOk n poll) (h2 : n ≤ 12) {i j : Nat} (hi : i < n) (hj : j < n) :
    lcM (fun (x : List (Int × Int)) => R.calm (ob (lookT x (i : Int)) fun a => ob (lookT x (j : Int)) fun b => if (decide (a < b)) = true then (.ok (some (1 : Int))) else (.ok none))) (poll.map FP) [] = .ok (((poll.map FP).filter fun d => decide ((lookT d (i : Int)).getD 0 < (lookT d (j : Int)).getD 0)).map fun _ => 1) := by
  obtain ⟨p1, p2, p3⟩ := hp
  refine lcM_eq (step := fun (x : List (Int × Int)) => ob (lookT x (i : Int)) fun a => ob (lookT x (j : Int)) fun b => if (decide (a < b)) = true then (.ok (some (1 : Int))) else (.ok none)) (fun d => decide ((lookT d (i : Int)).getD 0 < (lookT d (j : Int)).getD 0)) (fun _ => 1) (by rw [List.length_map]; unfold big; omega) fun d hd => ?_
  obtain ⟨o, ho, rfl⟩ := List.mem_map.mp hd
  obtain ⟨_, q⟩ := FP_ok (p3 o ho) h2
  rw [q i hi, q j hj, ob_some, ob_some]
  show (if decide (((pl o i : Nat) : Int) < ((pl o j : Nat) : Int)) = true then R.ok (some (1 : Int)) else R.ok none) = R.ok (if decide (((pl o i : Nat) : Int) < ((pl o j : Nat) : Int)) = true then some 1 else none)
  split <;> rfl
theorem count_len (hp : PollOk n poll) (h2 : n ≤ 12) {i j : Nat} (hi : i < n) (hj : j < n) : (((poll.map FP).filter fun d => decide ((lookT d (i : Int)).getD 0 < (lookT d (j : Int)).getD 0)).map fun _ => (1 : Int)).length = cnt poll i j := by
  obtain ⟨p1, p2, p3⟩ := hp
  rw [List.length_map, List.filter_map, List.length_map]
  unfold cnt
  congr 1
  refine List.filter_congr fun o ho => ?_
  obtain ⟨_, q⟩ := FP_ok (p3 o ho) h2
  show decide ((lookT (FP o) (i : Int)).getD 0 < (lookT (FP o) (j : Int)).getD 0) = _
  rw [q i hi, q j hj]
  exact decide_eq_decide.mpr (by show ((pl o i : Nat) : Int) < ((pl o j : Nat) : Int) ↔ _; omega)
theorem ahead_ok (hp : PollOk n poll) (h1 : 1 ≤ n) (h2 : n ≤ 12) : m__law_ahead poll = .ok (AH n (cnt poll) n) := by
  have hb : big = 1000000 := rfl
  obtain ⟨p1, p2, p3⟩ := id hp
  have a0 : atI poll 0 = some (poll[0]'(by omega)) := at_of (by decide) (by omega)
  have l0 : (poll[0]'(by omega)).length = n := (p3 _ (List.getElem_mem _)).length
  have hmap : lcM (fun (x1 : List Int) => R.calm (R.bind (m__law_places x1) fun v2 => .ok (some v2))) poll [] = .ok (poll.map FP) := lcM_map (step := fun (x1 : List Int) => R.bind (m__law_places x1) fun v2 => .ok (some v2)) FP (by omega) fun o ho => by rw [(FP_ok (p3 o ho) h2).1, bind_ok]
  refine Sat.eq ?_
  unfold m__law_ahead
  rw [hmap, bind_ok, a0, ob_some, l0, rg1_nat (by omega), ob_some]
  refine sat_bind (Q := fun s => s = AH n (cnt poll) n) (Sat.mono (sat_foldM (fun k (s : List ((Int × Int) × Int)) => s = AH n (cnt poll) k) (iota n) 0 [] rfl fun k s hk hs => ?_) fun s hs => by rw [iota_len, Nat.zero_add] at hs; exact hs) fun s hs => sat_ok hs
  rw [iota_len] at hk
  rw [iota_get, Nat.zero_add] at *
  subst hs
  rw [ob_some, l0, rg1_nat (by omega), ob_some]
  have hk12 : k * n ≤ 12 * 12 := Nat.mul_le_mul (by omega) h2
  have hle := AH_le (n := n) (c := cnt poll) k
  have hr : (rowA n (cnt poll) k).length = n := by unfold rowA; rw [List.length_map, List.length_range]
  refine sat_bind (Q := fun s => s = AH n (cnt poll) (k + 1)) (Sat.mono (sat_foldM (fun j (s : List ((Int × Int) × Int)) => s = AH n (cnt poll) k ++ (rowA n (cnt poll) k).take j) (iota n) 0 _ (by rw [List.take_zero, List.append_nil]) fun j s hj hs => ?_) fun s hs => ?_) fun s hs => sat_ok hs
  · rw [iota_len] at hj
    rw [Nat.zero_add] at *
    subst hs
    rw [iota_get, count_ok hp h2 hk hj, bind_ok, count_len hp h2 hk hj]
    have hg : (rowA n (cnt poll) k)[j]'(by omega) = (((k : Int), (j : Int)), ((cnt poll k j : Nat) : Int)) := by
      unfold rowA
      rw [List.getElem_map, List.getElem_range]
    rw [put_new (fun p hp e => ?_) (by rw [List.length_append, List.length_take]; omega), ob_some]
    · refine sat_ok ?_
      rw [List.append_assoc, List.take_succ_eq_append_getElem (by omega : j < (rowA n (cnt poll) k).length), hg]
    · rcases List.mem_append.mp hp with hp | hp
      · obtain ⟨i', j', h3, _, rfl⟩ := mem_AH.mp hp
        have e1 : (i' : Int) = k := congrArg Prod.fst e
        omega
      · obtain ⟨q, hq, e3⟩ := List.mem_take_iff_getElem.mp hp
        have hq' : q < j := by omega
        have hgq : (rowA n (cnt poll) k)[q]'(by omega) = (((k : Int), (q : Int)), ((cnt poll k q : Nat) : Int)) := by
          unfold rowA
          rw [List.getElem_map, List.getElem_range]
        rw [hgq] at e3
        subst e3
        have e2 : ((q : Nat) : Int) = (j : Int) := congrArg Prod.snd e
        omega
  · rw [iota_len, Nat.zero_add] at hs
    rw [hs, List.take_of_length_le (by omega)]
    unfold AH
    rw [List.range_succ, List.flatMap_append, List.flatMap_cons, List.flatMap_nil, List.append_nil]
theorem above (n i : Nat) : (List.range n).filter (fun (j : Nat) => decide ((i : Int) < (j : Int))) = List.range' (i + 1) (n - (i + 1)) := by
  by_cases h : i < n
  · have e : List.range n = List.range' 0 (i + 1) ++ List.range' (i + 1) (n - (i + 1)) := by
      rw [List.range_eq_range']
      have := List.range'_append (s := 0) (m := i + 1) (n := n - (i + 1)) (step := 1)
      rw [Nat.zero_add, Nat.one_mul] at this
      rw [this]
      congr 1
      omega
    rw [e, List.filter_append, List.filter_eq_nil_iff.mpr (fun j hj => by rw [List.mem_range'_1] at hj; simp; omega), List.nil_append]
    exact List.filter_eq_self.mpr fun j hj => by rw [List.mem_range'_1] at hj; exact decide_eq_true (by omega)
  · rw [show n - (i + 1) = 0 by omega, List.filter_eq_nil_iff.mpr (fun j hj => by have := List.mem_range.mp hj; simp; omega)]
    rfl
theorem due_eq : (((AH n c n).map (·.1)).filter fun x => decide (x.1 < x.2)).map (fun x => (x, (lookT (AH n c n) x).getD 0)) = PA n c n := by
  have key : ∀ m : Nat, m ≤ n → (((AH n c m).map (·.1)).filter fun x => decide (x.1 < x.2)).map (fun x => (x, (lookT (AH n c n) x).getD 0)) = PA n c m := by
    intro m
    induction m with
    | zero => intro _; rfl
    | succ m ih =>
      intro hm
      have e1 : AH n c (m + 1) = AH n c m ++ rowA n c m := by
        unfold AH
        rw [List.range_succ, List.flatMap_append, List.flatMap_cons, List.flatMap_nil, List.append_nil]
      have e2 : PA n c (m + 1) = PA n c m ++ rowP n c m := by
        unfold PA
        rw [List.range_succ, List.flatMap_append, List.flatMap_cons, List.flatMap_nil, List.append_nil]
      rw [e1, e2, List.map_append, List.filter_append, List.map_append, ih (by omega)]
      congr 1
      unfold rowA rowP
      rw [List.map_map, List.filter_map, List.map_map]
      have e3 : (List.range n).filter ((fun x : Int × Int => decide (x.1 < x.2)) ∘ ((fun p : (Int × Int) × Int => p.1) ∘ fun (j : Nat) => (((m : Int), (j : Int)), ((c m j : Nat) : Int)))) = List.range' (m + 1) (n - (m + 1)) := above n m
      rw [e3]
      refine List.map_congr_left fun j hj => ?_
      rw [List.mem_range'_1] at hj
      show (((m : Int), (j : Int)), (lookT (AH n c n) ((m : Int), (j : Int))).getD 0) = _
      rw [look_AH (by omega) (by omega)]
      rfl
  exact key n (Nat.le_refl _)
theorem merge_acc {κ υ : Type} [DecidableEq κ] : ∀ (l acc : List (κ × υ)), (∀ p ∈ l, ∀ q ∈ acc, q.1 ≠ p.1) → l.Pairwise (fun p q => p.1 ≠ q.1) → l.foldl (fun acc p => putT acc p.1 p.2) acc = acc ++ l
  | [], acc, _, _ => (List.append_nil _).symm
  | p :: l, acc, h, hp => by
    obtain ⟨h1, h2⟩ := List.pairwise_cons.mp hp
    have e : putT acc p.1 p.2 = acc ++ [p] := by
      unfold putT
      rw [if_neg]
      intro hc
      obtain ⟨q, hq, e⟩ := List.any_eq_true.mp hc
      exact h p List.mem_cons_self q hq (of_decide_eq_true e)
    rw [List.foldl_cons, e, merge_acc l (acc ++ [p]) (fun x hx q hq => ?_) h2, List.append_assoc]
    · rfl
    · rcases List.mem_append.mp hq with hq | hq
      · exact h x (List.mem_cons_of_mem _ hx) q hq
      · rw [List.mem_singleton.mp hq]
        exact h1 x hx
theorem PA_keys : ∀ m : Nat, (PA n c m).Pairwise fun p q => p.1 ≠ q.1 := fun m => by
  unfold PA
  rw [List.pairwise_flatMap]
  refine ⟨fun i _ => ?_, ?_⟩
  · unfold rowP
    rw [List.pairwise_map]
    refine (List.pairwise_lt_range' (s := i + 1) (n := n - (i + 1))).imp fun {a b} h e => ?_
    have e2 : ((a : Nat) : Int) = (b : Int) := congrArg Prod.snd e
    omega
  · refine List.pairwise_lt_range.imp fun {a b} h x hx y hy e => ?_
    obtain ⟨_, _, _, rfl⟩ := mem_rowP.mp hx
    obtain ⟨_, _, _, rfl⟩ := mem_rowP.mp hy
    have e1 : ((a : Nat) : Int) = (b : Int) := congrArg Prod.fst e
    omega
theorem merge_PA : mergeTT (PA n c n) = PA n c n := by
  unfold mergeTT
  rw [merge_acc (PA n c n) [] (fun _ _ q hq => by cases hq) (PA_keys n)]
  rfl
theorem ne_PA : neDM (PA n c n) (PA n c n) = false := by
  unfold neDM
  have : hitsM (PA n c n) (PA n c n) = true := List.all_eq_true.mpr fun p hp => by
    obtain ⟨i, j, _, h1, h2, rfl⟩ := mem_PA.mp hp
    show (match lookT (PA n c n) ((i : Int), (j : Int)) with
      | some k => decide (((c i j : Nat) : Int) = k)
      | none => false) = true
    rw [look_PA h1 h2]
    exact decide_eq_true rfl
  rw [this, beq_self_eq_true]
  rfl
theorem sum_ok (hp : PollOk n poll) (h1 : 1 ≤ n) (h2 : n ≤ 12) : m_pair_sum poll = .ok ((((PA n (cnt poll) n).map (·.2)).map fun x => min2 x ((poll.length : Int) - x)).sum) := by
  have hle := PA_le (n := n) (c := cnt poll) n
  have hk12 : n * n ≤ 12 * 12 := Nat.mul_le_mul h2 h2
  unfold m_pair_sum
  rw [pairs_ok hp h1 h2, bind_ok, lcP_map _ (by rw [List.length_map]; unfold big; omega), ob_some]
end K66
set_option maxRecDepth 100000
namespace K66
open PySem VL VP TM D PySem.SeqAt
open PySem.W.Datum (toD)
open L2 (atI ixN)
variable {n : Nat} {poll : List (List Int)}
theorem cell_ok {ns : List Int} {k : Nat} : Sat (m__law_cell_at ns (k : Int)) fun _ => True := by
  unfold m__law_cell_at
  refine sat_ite (fun h => ?_) fun _ => sat_ok trivial
  rw [at_nat (by have := of_decide_eq_true h; omega), ob_some]
  exact sat_ok trivial
theorem left : ∀ ns : List Int, ns.length ≤ 63 → ∃ e, h_law [.sc ns] = some (.ret (.fr (.bool true)) e) := fun ns hns => by
  have hb : big = 1000000 := rfl
  refine law_of (sim_law ns) ?_
  unfold m_law
  refine sat_out (I := fun _ => True) ?_ fun _ _ => sat_ok rfl
  have hk : max2 ((1 : Int)) ((min2 ((ns.length : Int)) ((5 : Int)))) = ((max 1 (min ns.length 5) : Nat) : Int) := by
    unfold max2 min2
    split <;> split <;> omega
  rw [hk, rg1_nat (by omega), ob_some]
  refine sat_loop (fun _ => True) trivial fun s x hx _ => ?_
  obtain ⟨k, hk, rfl⟩ := mem_iotaN hx
  refine sat_bind cell_ok fun c _ => ?_
  refine sat_bind (deck_ok c) fun d0 ok0 => ?_
  obtain ⟨a, d1, e1, ok1⟩ := next_spec ok0
  rw [e1, bind_ok]
  dsimp only
  obtain ⟨b, d2, e2, ok2⟩ := next_spec ok1
  rw [e2, bind_ok]
  dsimp only
  obtain ⟨q, d3, e3, ok3⟩ := next_spec ok2
  rw [e3, bind_ok]
  dsimp only
  obtain ⟨a0, a1⟩ := emod_bd a (b := 12) (by decide)
  obtain ⟨b0, b1⟩ := emod_bd b (b := 4) (by decide)
  obtain ⟨q0, q1⟩ := emod_bd q (b := 3) (by decide)
  have hm : ∃ n : Nat, atI [(1 : Int) + a % 12, (1 : Int) + b % 4, (12 : Int)] (q % 3) = some (n : Int) ∧ 1 ≤ n ∧ n ≤ 12 := by
    have h3 : q % 3 = 0 ∨ q % 3 = 1 ∨ q % 3 = 2 := by omega
    rcases h3 with h | h | h
    · exact ⟨(1 + a % 12).toNat, by rw [h, Int.toNat_of_nonneg (by omega)]; rfl, by omega, by omega⟩
    · exact ⟨(1 + b % 4).toNat, by rw [h, Int.toNat_of_nonneg (by omega)]; rfl, by omega, by omega⟩
    · exact ⟨12, by rw [h]; rfl, by omega, by omega⟩
  obtain ⟨n, en, h1, h2⟩ := hm
  rw [en, ob_some]
  refine sat_bind (poll_ok (by decide) (by decide) ok3 h1 h2) fun r ⟨hp, _⟩ => ?_
  generalize r.1 = poll at hp ⊢
  have hk12 : n * n ≤ 12 * 12 := Nat.mul_le_mul h2 h2
  have la := AH_le (n := n) (c := cnt poll) n
  have lp := PA_le (n := n) (c := cnt poll) n
  have p2 := hp.2.1
  rw [ahead_ok hp h1 h2, bind_ok, lcM_eq (step := fun (x92 : Int × Int) => if (decide (x92.1 < x92.2)) = true then (ob (lookT (AH n (cnt poll) n) x92) fun v93 => .ok (some ((x92, v93)))) else (.ok none)) (fun x => decide (x.1 < x.2)) (fun x => (x, (lookT (AH n (cnt poll) n) x).getD 0)) (by rw [List.length_map]; omega) (fun x hx => by
    obtain ⟨p, hp', rfl⟩ := List.mem_map.mp hx
    obtain ⟨i, j, hi, hj, rfl⟩ := mem_AH.mp hp'
    rw [look_AH hi hj, ob_some]
    dsimp only
    split <;> rfl), bind_ok, due_eq, merge_PA, lcP_map _ (by rw [List.length_map]; omega), ob_some]
  have hcp : m__law_copied poll = .ok poll := by
    unfold m__law_copied
    rw [lcP_map _ (by omega), ob_some, List.map_id']
  rw [hcp, bind_ok, rg1_of (by decide), ob_some]
  refine sat_outF (I := fun _ => True) (sat_loop (fun _ => True) trivial fun s y _ _ => ?_) fun _ _ => sat_ok ⟨_, rfl, trivial⟩
  rw [pairs_ok hp h1 h2, bind_ok, ne_PA, decide_eq_true (rfl : poll = poll), if_neg (by decide)]
  have l1 : lcM (fun (x133 : Int) => R.calm (R.bind (m__law_whole x133) fun v134 => if (!v134) = true then (.ok (some x133)) else (.ok none))) ((PA n (cnt poll) n).map (·.2)) [] = .ok [] := by
    rw [lcM_eq (step := fun (x133 : Int) => R.bind (m__law_whole x133) fun v134 => if (!v134) = true then (.ok (some x133)) else (.ok none)) (fun _ => false) (fun x => x) (by rw [List.length_map]; omega) (fun x hx => rfl), List.filter_eq_nil_iff.mpr (fun _ _ => by decide)]
    rfl
  rw [l1, bind_ok, decide_eq_true rfl, if_neg (by decide), bind_ok, outL_nx]
  refine sat_bind (Q := fun r : Fl Unit Bool => r = .nx ()) (sat_outF (I := fun _ => True) (sat_loop (fun _ => True) trivial fun s x _ _ => ?_) fun _ _ => sat_ok rfl) fun r hr => ?_
  · exact sat_ok ⟨_, rfl, trivial⟩
  subst hr
  rw [outL_nx, lcP_none _ (by rw [List.length_map]; omega), ob_some, decide_eq_true rfl, if_neg (by decide), bind_ok, outL_nx, sum_ok hp h1 h2, bind_ok]
  have hw : ∀ v : Int, m__law_whole v = .ok true := fun _ => rfl
  rw [hw, bind_ok, if_neg (by decide), decide_eq_true rfl, if_neg (by decide), bind_ok, if_neg (by decide)]
  exact sat_ok ⟨_, rfl, trivial⟩
end K66
set_option maxRecDepth 100000
set_option maxHeartbeats 0
open PySem PySem.W PySem.Calls PyProof.Rows
theorem PySem.Challenge.cw_farorders_k66_pairs_ahead_holds : PySem.Challenge.rw_farorders_k66_pairs_ahead.Holds := by
  w_on; o_law
  refine HandSHeadRun.head_any (r := OpenLaw.row PySem.Challenge.rw_farorders_k66_pairs_ahead) (q := view (OpenLaw.row PySem.Challenge.rw_farorders_k66_pairs_ahead).prog [25]) (H := K66.hk) (ob := K66.obW) (M := 4000) (loose := K66.nm) (d := HandSHeadRun.topDef (OpenLaw.row PySem.Challenge.rw_farorders_k66_pairs_ahead).prog 25) (kwd := []) K66.ob_eq
    (by kernel_rfl) (fun s => by kernel_rfl) K66.run (by kernel_rfl) (by kernel_rfl) (by kernel_rfl) (by rfl) (by first | assumption | decide +kernel) (by decide +kernel) ⟨rfl, rfl, rfl, rfl, rfl, by decide +kernel⟩ ?hw ?hc
  case hw => w_witness2
  case hc =>
    refine VL.walk_ofG (l := PySem.Challenge.rw_farorders_k66_pairs_ahead) (n := 63) (k := 7) (x := "script") rfl (by decide) (by kernel_rfl) ⟨rfl, by decide, by decide⟩ (by kernel_rfl) ?F
    intro w mg fa h Y G hmg0
    obtain ⟨K, KX, c⟩ := Y
    have hmg : mg ("law" : PySem.Str) = some (.ref fa) := by
      have e : (HandSHeadRun.topDef (OpenLaw.row PySem.Challenge.rw_farorders_k66_pairs_ahead).prog 25).name = ("law" : PySem.Str) := by kernel_rfl
      rw [← e]
      exact hmg0
    obtain ⟨fd, hb, hF⟩ := K66.facts (P := (PySem.Challenge.rw_farorders_k66_pairs_ahead).prog) (w := w) KX G hmg c
    exact ⟨K, fd, _, KX, hb, fun H a nums hl _ hS => VL.law_end hS (K66.left nums hl), hF⟩
