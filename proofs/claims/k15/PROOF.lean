import PyProof.Rows.All
import Wide.All
import OpenK.AllK
import Wide.FinOn
import HandS.ForMost
import HandS.ForExc
import HandS.TupAny
import HandS.Deep
import HandS.SortInts
import HandS.IsInst
import HandS.ExcIs
import HandS.Wide
import HandS.Style
import HandS.Conv
import HandS.RaiseMore
import HandS.More
import HandS.Defaults
import KE.DataMinMax
import KE.SortData
import KE.DataFind
import KE.DataIsa
import PyProof.ReprReads
import KE.KStateDown
import HandS.HeadEnd
import HandS.HeadHook2
import HandS.Head0
import HandS.Head1
import HandS.Head2
import HandS.HeadHook1
import HandS.HeadHook3
import HandS.HeadHook4
import HandS.Small
import HandS.ListItems
import PyProof.SumAny
import HandS.SetFor
import HandS.TupSets
import PyProof.ReprRoads
import HandS.ExcValue
import KE.KDictZip
import HandS.Flt
import HandS.HotCalls
import HandS.Text
import HandS.Iter
import PyProof.P3In
import KE.KDictWalk
import KE.KDictCopyH
import PyProof.EqKinds
import KE.DataCmp
import KE.Datum
import KE.DatumMore
import KE.KEqDict
import HandS.TupLen
import PyProof.Rows.SetFrom
import KE.GoesEnum
import KE.GoesMore
import PySem.Challenge.RW_farorders_k15_how_many_within
set_option Elab.async false
set_option linter.all false
set_option maxRecDepth 100000
namespace VL
open PySem
/-- a thing with things of its own: frozen data, or a new list, tuple, instance (of a class of the module, by its attributes) of such -/
inductive Nd where
  | lst
  | tup
  | ins (c : Str) (fs : List Str)
inductive Tr where
  | fr (d : PyData)
  | nd (k : Nd) (ts : List Tr)
mutual
/-- as data, where nothing is an instance -/
def Tr.dat : Tr → Option PyData
  | .fr d => some d
  | .nd .lst ts => (Tr.dats ts).map .list
  | .nd .tup ts => (Tr.dats ts).map .tuple
  | .nd (.ins _ _) _ => none
def Tr.dats : List Tr → Option (List PyData)
  | [] => some []
  | t :: ts => t.dat.bind fun d => (Tr.dats ts).map (d :: ·)
end
/-- what a name holds: frozen data; a list or dict of its own, which may be changed; an error; another thing of its own, told by data -/
inductive B where
  | fr (d : PyData)
  | ow (ds : List PyData)
  | od (kvs : List (PyData × PyData))
  | ex (c : Str)
  | rs (k : Nat) (d : PyData)
  | sc (ns : List Int)
  | tr (t : Tr)
abbrev Env := List (Option B)
/-- an operand: the name in a slot, or a value -/
inductive O where
  | s (i : Nat)
  | b (x : B)
inductive Out (α : Type) where
  | ok (a : α) (e : Env)
  | ex (c : Str) (e : Env)
inductive SO where
  | nx (e : Env)
  | rt (b : B) (e : Env)
  | bk (e : Env)
  | ct (e : Env)
  | ex (c : Str) (e : Env)
abbrev FE := Env → Option (Out O)
abbrev FD := Env → Option (Out (List PyData))
abbrev FA := Env → Option (Out (List O))
abbrev FT := Env → Option (Out Bool)
abbrev FS := Env → Option SO
def B.dat : B → Option PyData
  | .fr d => some d
  | .ow ds => some (.list ds)
  | .od kvs => some (.dict kvs)
  | .ex _ => none
  | .rs _ _ => none
  | .sc _ => none
  | .tr _ => none
def at? (e : Env) (i : Nat) : Option B := match e[i]? with
  | some x => x
  | none => none
/-- what is read -/
def res (e : Env) : O → Option PyData
  | .s i => (at? e i).bind B.dat
  | .b b => b.dat
/-- frozen: data that is not changed any more -/
def fz (e : Env) : O → Option (PyData × Env)
  | .s i => match at? e i with
    | some (.fr d) => some (d, e)
    | some (.ow ds) => some (.list ds, e.set i (some (.fr (.list ds))))
    | some (.od kvs) => some (.dict kvs, e.set i (some (.fr (.dict kvs))))
    | some (.tr t) => t.dat.map fun d => (d, e.set i (some (.fr d)))
    | _ => none
  | .b b => match b with
    | .fr d => some (d, e)
    | .ow ds => some (.list ds, e)
    | .od kvs => some (.dict kvs, e)
    | .tr t => t.dat.map fun d => (d, e)
    | _ => none
/-- frozen, or an error, or the script -/
def fzB (e : Env) : O → Option (B × Env)
  | .s i => match at? e i with
    | some (.ex c) => some (.ex c, e)
    | some (.sc ns) => some (.sc ns, e)
    | _ => (fz e (.s i)).map fun p => (.fr p.1, p.2)
  | .b b => match b with
    | .ex c => some (.ex c, e)
    | .sc ns => some (.sc ns, e)
    | _ => (fz e (.b b)).map fun p => (.fr p.1, p.2)
def bnd {α β : Type} (r : Option (Out α)) (k : α → Env → Option (Out β)) : Option (Out β) := match r with
  | none => none
  | some (.ok a e) => k a e
  | some (.ex c e) => some (.ex c e)
def bndS {α : Type} (r : Option (Out α)) (k : α → Env → Option SO) : Option SO := match r with
  | none => none
  | some (.ok a e) => k a e
  | some (.ex c e) => some (.ex c e)
def ok {α : Type} (a : α) (e : Env) : Option (Out α) := some (.ok a e)
/-- frozen data as an operand -/
def okD (d : PyData) (e : Env) : Option (Out O) := some (.ok (.b (.fr d)) e)
def fVar (i : Nat) : FE := fun e => match at? e i with
  | some _ => some (.ok (.s i) e)
  | none => none
def fC (d : PyData) : FE := fun e => okD d e
def fBin (op : PyData → PyData → Option B) (fa fb : FE) : FE := fun e => bnd (fa e) fun o1 e1 => bnd (fb e1) fun o2 e2 =>
  (res e2 o1).bind fun x => (res e2 o2).bind fun y => (op x y).bind fun z => some (.ok (.b z) e2)
def fUn (op : PyData → Option B) (fa : FE) : FE := fun e => bnd (fa e) fun o1 e1 => (res e1 o1).bind fun x => (op x).bind fun z => some (.ok (.b z) e1)
/-- items of a display, each frozen -/
def dNil : FD := fun e => some (.ok [] e)
def dCons (f : FE) (r : FD) : FD := fun e => bnd (f e) fun o e1 => (fz e1 o).bind fun p => bnd (r p.2) fun ds e2 => some (.ok (p.1 :: ds) e2)
def fLst (r : FD) : FE := fun e => bnd (r e) fun ds e1 => if ds.length ≤ 1000 then some (.ok (.b (.ow ds)) e1) else none
def fTup (r : FD) : FE := fun e => bnd (r e) fun ds e1 => if ds.length ≤ 1000 then some (.ok (.b (.fr (.tuple ds))) e1) else none
/-- tests -/
def fTest (f : FE) : FT := fun e => bnd (f e) fun o e1 => match res e1 o with
  | some (.bool b) => some (.ok b e1)
  | _ => none
def tAnd (t u : FT) : FT := fun e => bnd (t e) fun b e1 => match b with
  | true => u e1
  | false => some (.ok false e1)
def tOr (t u : FT) : FT := fun e => bnd (t e) fun b e1 => match b with
  | true => some (.ok true e1)
  | false => u e1
def tNot (t : FT) : FT := fun e => bnd (t e) fun b e1 => some (.ok (!b) e1)
def fIf (t : FT) (fa fb : FE) : FE := fun e => bnd (t e) fun b e1 => match b with
  | true => fa e1
  | false => fb e1
def sNil : FS := fun e => some (.nx e)
def sSeq (f g : FS) : FS := fun e => match f e with
  | some (.nx e1) => g e1
  | r => r
def sExpr (f : FE) : FS := fun e => bndS (f e) fun _ e1 => some (.nx e1)
/-- x = e, frozen -/
def sAsg (i : Nat) (f : FE) : FS := fun e => bndS (f e) fun o e1 => (fzB e1 o).bind fun p => some (.nx (p.2.set i (some p.1)))
/-- x = e, x's own from here on -/
def sOwn (i : Nat) (f : FE) : FS := fun e => bndS (f e) fun o e1 => match o with
  | .b b => some (.nx (e1.set i (some b)))
  | .s _ => none
/-- return of a new list: the caller's own -/
def sRetO (f : FE) : FS := fun e => bndS (f e) fun o e1 => match o with
  | .b b => some (.rt b e1)
  | .s i => (at? e1 i).bind fun b => some (.rt b (e1.set i none))
def sRetN : FS := fun e => some (.rt (.fr .none) e)
def sIf (t : FT) (f g : FS) : FS := fun e => bndS (t e) fun b e1 => match b with
  | true => f e1
  | false => g e1
def sRaise (c : Str) : FS := fun e => some (.ex c e)
def sBrk : FS := fun e => some (.bk e)
/-- names forgotten -/
def forget (vs : List Nat) (e : Env) : Env := vs.foldl (fun e i => e.set i none) e
end VL
namespace VL
open PySem L2
def aNil : FA := fun e => some (.ok [] e)
def aCons (f : FE) (r : FA) : FA := fun e => bnd (f e) fun o e1 => bnd (r e1) fun os e2 => some (.ok (o :: os) e2)
def resAll (e : Env) : List O → Option (List PyData)
  | [] => some []
  | o :: os => (res e o).bind fun d => (resAll e os).bind fun ds => some (d :: ds)
def fCB (g : List PyData → Option B) (fa : FA) : FE := fun e => bnd (fa e) fun os e1 => (resAll e1 os).bind fun ds => (g ds).bind fun z => some (.ok (.b z) e1)
/-- a < b < c -/
def fChain (g h : PyData → PyData → Option B) (fa fb fc : FE) : FE := fun e => bnd (fa e) fun o1 e1 => bnd (fb e1) fun o2 e2 =>
  (res e2 o1).bind fun x => (res e2 o2).bind fun y => match g x y with
    | some (.fr (.bool true)) => bnd (fc e2) fun o3 e3 => (res e3 o2).bind fun y' => (res e3 o3).bind fun z => (h y' z).bind fun r => some (.ok (.b r) e3)
    | some (.fr (.bool false)) => some (.ok (.b (.fr (.bool false))) e2)
    | _ => none
def fAndV (fa fb : FE) : FE := fun e => bnd (fa e) fun o e1 => match res e1 o with
  | some (.bool true) => fb e1
  | some (.bool false) => okD (.bool false) e1
  | _ => none
def fOrV (fa fb : FE) : FE := fun e => bnd (fa e) fun o e1 => match res e1 o with
  | some (.bool true) => okD (.bool true) e1
  | some (.bool false) => fb e1
  | _ => none
def fNotV (fa : FE) : FE := fun e => bnd (fa e) fun o e1 => match res e1 o with
  | some (.bool b) => okD (.bool (!b)) e1
  | _ => none
def big : Nat := 1000000
def oAdd : PyData → PyData → Option B
  | .int i, .int j => some (.fr (.int (i + j)))
  | .str a, .str b => if a.length + b.length ≤ big then some (.fr (.str (a ++ b))) else none
  | .list xs, .list ys => if xs.length + ys.length ≤ big then some (.ow (xs ++ ys)) else none
  | .tuple xs, .tuple ys => if xs.length + ys.length ≤ big then some (.fr (.tuple (xs ++ ys))) else none
  | _, _ => none
def cMul (i j : Int) : Bool := decide (i.natAbs < 2 ^ 64) || decide (j.natAbs < 2 ^ 64)
def oMul : PyData → PyData → Option B
  | .int i, .int j => if cMul i j = true then some (.fr (.int (i * j))) else none
  | .list xs, .int k => if k.natAbs < 2 ^ 63 ∧ xs.length * k.toNat ≤ big then some (.ow (List.replicate k.toNat xs).flatten) else none
  | _, _ => none
def cFdiv (i j : Int) : Bool := decide (0 < j) && decide (j.natAbs < 2 ^ 200)
def isE : PyData → PyData → Option Bool
  | .list xs, .list [] => some xs.isEmpty
  | .str a, .str b => some (a == b)
  | _, _ => none
def oEq : PyData → PyData → Option B := fun x y => if SeqAt.shaped x = true ∧ SeqAt.shaped y = true then some (.fr (.bool (PyData.eqv x y))) else (isE x y).map fun b => .fr (.bool b)
def oIx : PyData → PyData → Option B
  | .list ds, .int i => (atI ds i).map .fr
  | .tuple ds, .int i => (atI ds i).map .fr
  | .str z, .int i => if z.length ≤ big then (atI z.cps.toList i).map fun c => .fr (.str ⟨#[c]⟩) else none
  | _, _ => none
/-- a part of a slice -/
abbrev FO := Env → Option (Out (Option Int))
def oNo : FO := fun e => some (.ok none e)
def oSome (f : FE) : FO := fun e => bnd (f e) fun o e1 => match res e1 o with
  | some (.int i) => some (.ok (some i) e1)
  | _ => none
def cutD {α : Type} (xs : List α) (lo hi : Option Int) : List α := (xs.drop (HT.sIx xs.length 0 lo)).take (HT.sIx xs.length xs.length hi - HT.sIx xs.length 0 lo)
def oSl : PyData → Option Int → Option Int → Option B
  | .list ds, lo, hi => some (.ow (cutD ds lo hi))
  | .str z, lo, hi => if z.length ≤ big then some (.fr (.str (cutS z lo hi))) else none
  | _, _, _ => none
def fSl (fa : FE) (fl fh : FO) : FE := fun e => bnd (fa e) fun o e1 => bnd (fl e1) fun l e2 => bnd (fh e2) fun h e3 => (res e3 o).bind fun x => (oSl x l h).bind fun z => some (.ok (.b z) e3)
def asInts : List PyData → Option (List Int)
  | [] => some []
  | .int i :: ds => (asInts ds).map (i :: ·)
  | _ => none
def gLen : List PyData → Option B
  | [.list ds] => some (.fr (.int ds.length))
  | [.tuple ds] => some (.fr (.int ds.length))
  | [.str z] => if z.length ≤ big then some (.fr (.int z.length)) else none
  | [.dict ks] => some (.fr (.int ks.length))
  | _ => none
def gAbs : List PyData → Option B
  | [.int i] => some (.fr (.int (if i < 0 then -i else i)))
  | _ => none
def maxI : List Int → Int
  | [] => 0
  | x :: xs => xs.foldl max x
def minI : List Int → Int
  | [] => 0
  | x :: xs => xs.foldl min x
def gMax : List PyData → Option B
  | [.int i, .int j] => some (.fr (.int (if j > i then j else i)))
  | [.list (d :: ds)] => (asInts (d :: ds)).map fun ns => .fr (.int (maxI ns))
  | _ => none
def gMin : List PyData → Option B
  | [.int i, .int j] => some (.fr (.int (if j < i then j else i)))
  | [.list (d :: ds)] => (asInts (d :: ds)).map fun ns => .fr (.int (minI ns))
  | _ => none
def gSum : List PyData → Option B
  | [.list ds] => (asInts ds).map fun ns => .fr (.int ns.sum)
  | _ => none
def gInt : List PyData → Option B
  | [.int i] => some (.fr (.int i))
  | [.bool b] => some (.fr (.int (if b then 1 else 0)))
  | _ => none
def gTuple : List PyData → Option B
  | [.list ds] => some (.fr (.tuple ds))
  | [.tuple ds] => some (.fr (.tuple ds))
  | _ => none
end VL
namespace VL
open PySem L2
abbrev FI := Env → Option (Out (List PyData))
/-- a list (frozen), a tuple -/
def iSeq (f : FE) : FI := fun e => bnd (f e) fun o e1 => (fz e1 o).bind fun p => match p.1 with
  | .list ds => some (.ok ds p.2)
  | _ => none
def rngN (lo : Int) (n : Nat) : List PyData := (List.range n).map fun (i : Nat) => .int (lo + (i : Int))
def lim (i : Int) : Bool := decide (i.natAbs < 2 ^ 62)
def iRange1 (f : FE) : FI := fun e => bnd (f e) fun o e1 => match res e1 o with
  | some (.int j) => if lim j = true then some (.ok (rngN 0 j.toNat) e1) else none
  | _ => none
def iRange2 (f g : FE) : FI := fun e => bnd (f e) fun o e1 => bnd (g e1) fun o2 e2 => match res e2 o, res e2 o2 with
  | some (.int i), some (.int j) => if lim i = true ∧ lim j = true then some (.ok (rngN i (j - i).toNat) e2) else none
  | _, _ => none
def enumL : Nat → List PyData → List PyData
  | _, [] => []
  | i, d :: ds => .tuple [.int i, d] :: enumL (i + 1) ds
def iEnumr (f : FE) : FI := fun e => bnd (f e) fun o e1 => (fz e1 o).bind fun p => match p.1 with
  | .list ds => some (.ok (enumL 0 ds) p.2)
  | _ => none
abbrev FG := PyData → Env → Option Env
def gN (i : Nat) : FG := fun d e => some (e.set i (some (.fr d)))
def gT2 (i j : Nat) : FG := fun d e => match d with
  | .tuple [a, b] => some ((e.set i (some (.fr a))).set j (some (.fr b)))
  | _ => none
def sForL (g : FG) (body : FS) (dead : List Nat) : List PyData → FS
  | [], e => some (.nx (forget dead e))
  | d :: ds, e => match g d e with
    | none => none
    | some e1 => match body e1 with
      | some (.nx e2) => sForL g body dead ds (forget dead e2)
      | some (.ct e2) => sForL g body dead ds (forget dead e2)
      | some (.bk e2) => some (.nx (forget dead e2))
      | some (.rt b e2) => some (.rt b e2)
      | some (.ex c e2) => some (.ex c e2)
      | none => none
def sFor (fi : FI) (g : FG) (body : FS) (dead : List Nat) : FS := fun e => bndS (fi e) fun ds e1 => sForL g body dead ds e1
def sWhile (t : FT) (body : FS) (dead : List Nat) : Nat → FS
  | 0, _ => none
  | n + 1, e => bndS (t e) fun b e1 => match b with
    | false => some (.nx e1)
    | true => match body e1 with
      | some (.nx e2) => sWhile t body dead n (forget dead e2)
      | some (.ct e2) => sWhile t body dead n (forget dead e2)
      | some (.bk e2) => some (.nx (forget dead e2))
      | some (.rt b e2) => some (.rt b e2)
      | some (.ex c e2) => some (.ex c e2)
      | none => none
def tTrue : FT := fun e => some (.ok true e)
def fLcL (g : FG) (t : FT) (f : FE) (vs : List Nat) : List PyData → List PyData → Env → Option (Out O)
  | [], acc, e => some (.ok (.b (.ow acc)) e)
  | d :: ds, acc, e => match g d e with
    | none => none
    | some e1 => match t e1 with
      | some (.ok true e2) => match f e2 with
        | some (.ok o e3) => match fz e3 o with
          | some p => if acc.length < big then fLcL g t f vs ds (acc ++ [p.1]) (forget vs p.2) else none
          | none => none
        | _ => none
      | some (.ok false e2) => fLcL g t f vs ds acc (forget vs e2)
      | _ => none
def fLc (fi : FI) (g : FG) (t : FT) (f : FE) (vs : List Nat) : FE := fun e => bnd (fi e) fun ds e1 => fLcL g t f vs ds [] (forget vs e1)
inductive FR where
  | ret (b : B) (e : Env)
  | ex (c : Str) (e : Env)
abbrev Fn := List B → Option FR
/-- a def by its body, n names in all -/
def runF (g : FS) (n : Nat) : Fn := fun bs => match g (bs.map some ++ List.replicate (n - bs.length) none) with
  | some (.nx e) => some (.ret (.fr .none) e)
  | some (.rt b e) => some (.ret b e)
  | some (.ex c e) => some (.ex c e)
  | _ => none
/-- arguments: frozen; a name of one's own handed in to be changed -/
def aF (f : FE) (r : FA) : FA := fun e => bnd (f e) fun o e1 => (fzB e1 o).bind fun p => bnd (r p.2) fun os e2 => some (.ok (.b p.1 :: os) e2)
def aM (i : Nat) (r : FA) : FA := fun e => match at? e i with
  | some _ => bnd (r e) fun os e2 => some (.ok (.s i :: os) e2)
  | none => none
def bindO (e : Env) : List O → Option (List B)
  | [] => some []
  | .b x :: os => (bindO e os).bind fun bs => some (x :: bs)
  | .s i :: os => (at? e i).bind fun x => (bindO e os).bind fun bs => some (x :: bs)
/-- mi: (the parameter's place, the caller's slot) -/
def putBack (e2 : Env) : List (Nat × Nat) → Env → Env
  | [], e => e
  | (j, i) :: r, e => putBack e2 r (e.set i (at? e2 j))
/-- where the arguments' slots are those of mi, and all else is frozen -/
def slotsOk (mi : List (Nat × Nat)) : Nat → List O → Bool
  | _, [] => true
  | j, .s i :: os => decide ((j, i) ∈ mi) && slotsOk mi (j + 1) os
  | j, .b x :: os => (match x with
    | .fr _ => true
    | .ex _ => true
    | .sc _ => true
    | _ => false) && slotsOk mi (j + 1) os
def miOk (mi : List (Nat × Nat)) (os : List O) : Bool := mi.all fun p => match os[p.1]? with
  | some (.s i) => i == p.2
  | _ => false
def fCall (F : Fn) (n : Nat) (mi : List (Nat × Nat)) (fa : FA) : FE := fun e => bnd (fa e) fun os e1 => if (slotsOk mi 0 os && miOk mi os && os.length == n) = true then (bindO e1 os).bind fun bs => match F bs with
  | none => none
  | some (.ret b e2) => some (.ok (.b b) (putBack e2 mi e1))
  | some (.ex c e2) => some (.ex c (putBack e2 mi e1)) else none
/-- names of one's own lent to be read; the answer is flat -/
def isFlat : PyData → Bool
  | .none => true
  | .bool _ => true
  | .int _ => true
  | .str _ => true
  | _ => false
def aP (f : FE) (r : FA) : FA := fun e => bnd (f e) fun o e1 => match o with
  | .s i => bnd (r e1) fun os e2 => some (.ok (.s i :: os) e2)
  | .b _ => (fzB e1 o).bind fun p => bnd (r p.2) fun os e2 => some (.ok (.b p.1 :: os) e2)
def lent : B → Option B
  | .fr d => some (.fr d)
  | .ow ds => some (.fr (.list ds))
  | .od ks => some (.fr (.dict ks))
  | .ex c => some (.ex c)
  | .sc ns => some (.sc ns)
  | .rs _ _ => none
  | .tr t => t.dat.map .fr
def lendO (e : Env) : List O → Option (List B)
  | [] => some []
  | .b x :: os => (lendO e os).bind fun bs => some (x :: bs)
  | .s i :: os => ((at? e i).bind lent).bind fun x => (lendO e os).bind fun bs => some (x :: bs)
/-- nothing owned in what is handed in as a value -/
def flatO : List O → Bool
  | [] => true
  | .s _ :: os => flatO os
  | .b x :: os => (match x with
    | .fr _ => true
    | .ex _ => true
    | .sc _ => true
    | _ => false) && flatO os
def fCallP (F : Fn) (n : Nat) (fa : FA) : FE := fun e => bnd (fa e) fun os e1 => if flatO os = true then (lendO e1 os).bind fun bs => if bs.length = n then match F bs with
  | some (.ret (.fr d) _) => if isFlat d = true then okD d e1 else none
  | some (.ex c _) => some (.ex c e1)
  | _ => none else none else none
end VL
namespace VL
open PySem L2
/-- x.m(..), x in slot i -/
def fMth (i : Nat) (g : List PyData → List PyData → Option (B × List PyData)) (fd : FD) : FE := fun e => match at? e i with
  | some (.ow _) => bnd (fd e) fun as e1 => match at? e1 i with
    | some (.ow ds) => (g ds as).bind fun p => some (.ok (.b p.1) (e1.set i (some (.ow p.2))))
    | _ => none
  | _ => none
def mAppend (ds : List PyData) : List PyData → Option (B × List PyData)
  | [d] => if ds.length < big then some (.fr .none, ds ++ [d]) else none
  | _ => none
/-- x[f] = .., x in slot i -/
def putAt (i : Nat) (f : FE) (d : PyData) : Env → Option (Out Unit) := fun e => match at? e i with
  | none => none
  | some _ => bnd (f e) fun o e1 => match res e1 o, at? e1 i with
    | some (.int k), some (.ow ds) => (ixN ds.length k).bind fun j => some (.ok () (e1.set i (some (.ow (ds.set j d)))))
    | _, _ => none
def sPut (i : Nat) (fx fv : FE) : FS := fun e => bndS (fv e) fun o e1 => (fz e1 o).bind fun p => bndS (putAt i fx p.1 p.2) fun _ e2 => some (.nx e2)
/-- x[a], y[b] = u, v -/
def sPut2 (i : Nat) (fx : FE) (j : Nat) (fy : FE) (fd : FD) : FS := fun e => bndS (fd e) fun ds e1 => match ds with
  | [a, b] => bndS (putAt i fx a e1) fun _ e2 => bndS (putAt j fy b e2) fun _ e3 => some (.nx e3)
  | _ => none
/-- x[f] op= e -/
def sAugAt (i : Nat) (op : PyData → PyData → Option B) (fx fv : FE) : FS := fun e => match at? e i with
  | none => none
  | some _ => bndS (fx e) fun o e1 => match res e1 o, at? e1 i with
    | some (.int k), some (.ow ds) => (ixN ds.length k).bind fun j => (ds[j]?).bind fun old => bndS (fv e1) fun o2 e2 => match res e2 o2, at? e2 i with
      | some d, some (.ow ds2) => (op old d).bind fun z => match z with
        | .fr z => (ixN ds2.length k).bind fun j2 => some (.nx (e2.set i (some (.ow (ds2.set j2 z)))))
        | _ => none
      | _, _ => none
    | _, _ => none
end VL
set_option maxRecDepth 100000
namespace VL
open PySem L2
def kP : Key → PyData
  | .inl i => .int i
  | .inr x => .str x
mutual
inductive Rp (K : PySem.W.Frag) (G : Hp) : V → PyData → Prop
  | non : Rp K G .non .none
  | bl (b : Bool) : Rp K G (.bl b) (.bool b)
  | int (i : Int) : Rp K G (.int i) (.int i)
  | str (x : Str) : Rp K G (.str x) (.str x)
  | lst {a : Addr} {xs : List V} {ds : List PyData} : G a = some (.lst xs) → RpAll K G xs ds → Rp K G (.ref a) (.list ds)
  | tup {a : Addr} {xs : List V} {ds : List PyData} : G a = some (.tup xs) → RpAll K G xs ds → Rp K G (.ref a) (.tuple ds)
  | dic {a : Addr} {ks : List (Key × V)} {ds : List (PyData × PyData)} : G a = some (.dK ks) → ks.map (fun p => kP p.1) = ds.map (·.1) → RpAll K G (ks.map (·.2)) (ds.map (·.2)) → Rp K G (.ref a) (.dict ds)
inductive RpAll (K : PySem.W.Frag) (G : Hp) : List V → List PyData → Prop
  | nil : RpAll K G [] []
  | cons {v : V} {vs : List V} {d : PyData} {ds : List PyData} : Rp K G v d → RpAll K G vs ds → RpAll K G (v :: vs) (d :: ds)
end
section
variable {K : PySem.W.Frag} {G G' : Hp}
mutual
theorem Rp.mono (e : Same G G') : ∀ {v : V} {d : PyData}, Rp K G v d → Rp K G' v d
  | _, _, .non => .non
  | _, _, .bl b => .bl b
  | _, _, .int i => .int i
  | _, _, .str x => .str x
  | _, _, .lst h a => .lst (e _ _ h) (RpAll.mono e a)
  | _, _, .tup h a => .tup (e _ _ h) (RpAll.mono e a)
  | _, _, .dic h k a => .dic (e _ _ h) k (RpAll.mono e a)
theorem RpAll.mono (e : Same G G') : ∀ {vs : List V} {ds : List PyData}, RpAll K G vs ds → RpAll K G' vs ds
  | _, _, .nil => .nil
  | _, _, .cons h t => .cons (Rp.mono e h) (RpAll.mono e t)
end
theorem RpAll.length : ∀ {vs : List V} {ds : List PyData}, RpAll K G vs ds → vs.length = ds.length
  | _, _, .nil => rfl
  | _, _, .cons _ t => by rw [List.length_cons, List.length_cons, RpAll.length t]
theorem RpAll.append : ∀ {vs ws : List V} {ds es : List PyData}, RpAll K G vs ds → RpAll K G ws es → RpAll K G (vs ++ ws) (ds ++ es)
  | _, _, _, _, .nil, k => k
  | _, _, _, _, .cons h t, k => .cons h (RpAll.append t k)
theorem RpAll.get : ∀ {vs : List V} {ds : List PyData} {i : Nat} {d : PyData}, RpAll K G vs ds → ds[i]? = some d → ∃ v, vs[i]? = some v ∧ Rp K G v d
  | _, _, _, _, .nil, e => by simp at e
  | _, _, 0, _, .cons r _, e => by simp at e; subst e; exact ⟨_, rfl, r⟩
  | _, _, i + 1, d, .cons _ t, e => by
    obtain ⟨u, h1, h2⟩ := RpAll.get (i := i) (d := d) t (by simpa using e)
    exact ⟨u, by simpa using h1, h2⟩
theorem RpAll.set {v : V} {d : PyData} (r : Rp K G v d) : ∀ {vs : List V} {ds : List PyData} (i : Nat), RpAll K G vs ds → RpAll K G (vs.set i v) (ds.set i d)
  | _, _, _, .nil => .nil
  | _, _, 0, .cons _ t => .cons r t
  | _, _, i + 1, .cons q t => .cons q (RpAll.set r i t)
theorem RpAll.take : ∀ {vs : List V} {ds : List PyData} (n : Nat), RpAll K G vs ds → RpAll K G (vs.take n) (ds.take n)
  | _, _, 0, _ => .nil
  | _, _, _ + 1, .nil => .nil
  | _, _, n + 1, .cons r t => .cons r (RpAll.take n t)
theorem RpAll.drop : ∀ {vs : List V} {ds : List PyData} (n : Nat), RpAll K G vs ds → RpAll K G (vs.drop n) (ds.drop n)
  | _, _, 0, r => r
  | _, _, _ + 1, .nil => .nil
  | _, _, n + 1, .cons _ t => RpAll.drop n t
mutual
/-- without dicts it is the kit's Dp -/
theorem Rp.dp : ∀ {v : V} (d : PyData), d.canLay0 = true → Rp K G v d → Dp K G v d
  | _, .none, _, .non => .non
  | _, .bool _, _, .bl b => .bl b
  | _, .int _, _, .int i => .int i
  | _, .str _, _, .str x => .str x
  | _, .list ds, c, .lst h a => .lst (.of h) (RpAll.dp ds (by simpa [PyData.canLay0] using c) a)
  | _, .tuple ds, c, .tup h a => .tup (.of h) (RpAll.dp ds (by simpa [PyData.canLay0] using c) a)
  | _, .dict _, c, _ => by simp [PyData.canLay0] at c
theorem RpAll.dp : ∀ {vs : List V} (ds : List PyData), PyData.canLayAll0 ds = true → RpAll K G vs ds → DpAll K G vs ds
  | _, [], _, .nil => .nil
  | _, d :: ds, c, .cons h t => by
    have c' : d.canLay0 = true ∧ PyData.canLayAll0 ds = true := by simpa [PyData.canLayAll0] using c
    exact .cons (Rp.dp d c'.1 h) (RpAll.dp ds c'.2 t)
end
end
structure Res where
  rep : PySem.W.Frag → Hp → Hp → V → PyData → (Addr → Prop) → Prop
  frame : ∀ {K : PySem.W.Frag} {G H G' H' : Hp} {v : V} {d : PyData} {fp : Addr → Prop}, rep K G H v d fp → Same G G' → (∀ a, fp a → H' a = H a ∧ G' a = G a) → rep K G' H' v d fp
  own : ∀ {K : PySem.W.Frag} {G H : Hp} {v : V} {d : PyData} {fp : Addr → Prop}, rep K G H v d fp → ∀ a, fp a → G a = none ∧ ∃ o, H a = some o
structure Cc where
  K : PySem.W.Frag
  mg : Str → Option Value
  rho : Nat → Res
/-- an exception of the class at A, that is held -/
def XO (A p : Addr) : HO := .ext fun h => ∃ (oe : Obj) (vs : Array Value), h.get? p = some oe ∧ Zc (.ref A) none oe ∧ oe.data = .fields vs
structure WS where
  G : Hp
  H : Hp
  fp : Nat → Addr → Prop
mutual
/-- a thing at v, its own at the addresses told -/
inductive TOk (C : Cc) (G H : Hp) : Tr → V → List Addr → Prop
  | fr {v : V} {d : PyData} : Rp C.K G v d → TOk C G H (.fr d) v []
  | lst {ts : List Tr} {p : Addr} {xs : List V} {as : List Addr} : G p = none → H p = some (.lst xs) → TAll C G H ts xs as → TOk C G H (.nd .lst ts) (.ref p) (p :: as)
  | tup {ts : List Tr} {p : Addr} {xs : List V} {as : List Addr} : G p = none → H p = some (.tup xs) → TAll C G H ts xs as → TOk C G H (.nd .tup ts) (.ref p) (p :: as)
  | ins {c : Str} {fs : List Str} {ts : List Tr} {p dx A : Addr} {xs : List V} {as : List Addr} : C.mg c = some (.ref A) → G p = none → H p = some (.ins A dx (fs.zip xs)) → fs.length = xs.length → G dx = none → H dx = some (.own p) → TAll C G H ts xs as → TOk C G H (.nd (.ins c fs) ts) (.ref p) (p :: dx :: as)
inductive TAll (C : Cc) (G H : Hp) : List Tr → List V → List Addr → Prop
  | nil : TAll C G H [] [] []
  | cons {t : Tr} {x : V} {as bs : List Addr} {ts : List Tr} {xs : List V} : TOk C G H t x as → TAll C G H ts xs bs → TAll C G H (t :: ts) (x :: xs) (as ++ bs)
end
section
variable {C : Cc} {G H G' H' : Hp}
mutual
theorem TOk.own : ∀ {t : Tr} {v : V} {as : List Addr}, TOk C G H t v as → ∀ a ∈ as, G a = none ∧ ∃ o, H a = some o
  | _, _, _, .fr _, a, ha => by cases ha
  | _, _, _, .lst h1 h2 t, a, ha => by
    rcases List.mem_cons.mp ha with rfl | ha
    · exact ⟨h1, _, h2⟩
    · exact TAll.own t a ha
  | _, _, _, .tup h1 h2 t, a, ha => by
    rcases List.mem_cons.mp ha with rfl | ha
    · exact ⟨h1, _, h2⟩
    · exact TAll.own t a ha
  | _, _, _, .ins _ h1 h2 _ h4 h5 t, a, ha => by
    rcases List.mem_cons.mp ha with rfl | ha
    · exact ⟨h1, _, h2⟩
    · rcases List.mem_cons.mp ha with rfl | ha
      · exact ⟨h4, _, h5⟩
      · exact TAll.own t a ha
theorem TAll.own : ∀ {ts : List Tr} {xs : List V} {as : List Addr}, TAll C G H ts xs as → ∀ a ∈ as, G a = none ∧ ∃ o, H a = some o
  | _, _, _, .nil, a, ha => by cases ha
  | _, _, _, .cons h t, a, ha => by
    rcases List.mem_append.mp ha with ha | ha
    · exact TOk.own h a ha
    · exact TAll.own t a ha
end
mutual
theorem TOk.mono (e : Same G G') : ∀ {t : Tr} {v : V} {as : List Addr}, TOk C G H t v as → (∀ a ∈ as, H' a = H a ∧ G' a = G a) → TOk C G' H' t v as
  | _, _, _, .fr r, _ => .fr (r.mono e)
  | _, _, _, .lst h1 h2 t, k => by
    obtain ⟨k1, k2⟩ := k _ List.mem_cons_self
    exact .lst (k2.trans h1) (k1.trans h2) (TAll.mono e t fun a ha => k a (List.mem_cons_of_mem _ ha))
  | _, _, _, .tup h1 h2 t, k => by
    obtain ⟨k1, k2⟩ := k _ List.mem_cons_self
    exact .tup (k2.trans h1) (k1.trans h2) (TAll.mono e t fun a ha => k a (List.mem_cons_of_mem _ ha))
  | _, _, _, .ins h0 h1 h2 h3 h4 h5 t, k => by
    obtain ⟨k1, k2⟩ := k _ List.mem_cons_self
    obtain ⟨k3, k4⟩ := k _ (List.mem_cons_of_mem _ List.mem_cons_self)
    exact .ins h0 (k2.trans h1) (k1.trans h2) h3 (k4.trans h4) (k3.trans h5) (TAll.mono e t fun a ha => k a (List.mem_cons_of_mem _ (List.mem_cons_of_mem _ ha)))
theorem TAll.mono (e : Same G G') : ∀ {ts : List Tr} {xs : List V} {as : List Addr}, TAll C G H ts xs as → (∀ a ∈ as, H' a = H a ∧ G' a = G a) → TAll C G' H' ts xs as
  | _, _, _, .nil, _ => .nil
  | _, _, _, .cons h t, k => .cons (TOk.mono e h fun a ha => k a (List.mem_append_left _ ha)) (TAll.mono e t fun a ha => k a (List.mem_append_right _ ha))
end
mutual
/-- all its own frozen -/
theorem TOk.rp (e : Same G G') : ∀ {t : Tr} {v : V} {as : List Addr} {d : PyData}, TOk C G H t v as → (∀ a ∈ as, G' a = H a) → t.dat = some d → Rp C.K G' v d
  | _, _, _, _, .fr r, _, h => by cases h; exact r.mono e
  | .nd .lst ts, _, _, d, .lst h1 h2 t, k, h => by
    cases q : Tr.dats ts with
    | none => rw [Tr.dat, q] at h; cases h
    | some ds =>
      rw [Tr.dat, q] at h
      cases h
      exact .lst ((k _ List.mem_cons_self).trans h2) (TAll.rp e t (fun a ha => k a (List.mem_cons_of_mem _ ha)) q)
  | .nd .tup ts, _, _, d, .tup h1 h2 t, k, h => by
    cases q : Tr.dats ts with
    | none => rw [Tr.dat, q] at h; cases h
    | some ds =>
      rw [Tr.dat, q] at h
      cases h
      exact .tup ((k _ List.mem_cons_self).trans h2) (TAll.rp e t (fun a ha => k a (List.mem_cons_of_mem _ ha)) q)
  | .nd (.ins _ _) _, _, _, _, _, _, h => by rw [Tr.dat] at h; cases h
theorem TAll.rp (e : Same G G') : ∀ {ts : List Tr} {xs : List V} {as : List Addr} {ds : List PyData}, TAll C G H ts xs as → (∀ a ∈ as, G' a = H a) → Tr.dats ts = some ds → RpAll C.K G' xs ds
  | _, _, _, _, .nil, _, h => by cases h; exact .nil
  | t :: ts, _, _, ds, .cons r u, k, h => by
    rw [Tr.dats] at h
    cases q : t.dat with
    | none => rw [q] at h; cases h
    | some d =>
      cases q2 : Tr.dats ts with
      | none => rw [q, q2] at h; cases h
      | some es =>
        rw [q, q2] at h
        cases h
        exact .cons (TOk.rp e r (fun a ha => k a (List.mem_append_left _ ha)) q) (TAll.rp e u (fun a ha => k a (List.mem_append_right _ ha)) q2)
end
end
def BOk (C : Cc) (G H : Hp) : B → V → (Addr → Prop) → Prop
  | .fr d, v, fp => Rp C.K G v d ∧ ∀ a, ¬ fp a
  | .ow ds, v, fp => ∃ p xs, v = .ref p ∧ G p = none ∧ H p = some (.lst xs) ∧ RpAll C.K G xs ds ∧ ∀ a, fp a ↔ a = p
  | .od ds, v, fp => ∃ p ks, v = .ref p ∧ G p = none ∧ H p = some (.dK ks) ∧ ks.map (fun q => kP q.1) = ds.map (·.1) ∧ RpAll C.K G (ks.map (·.2)) (ds.map (·.2)) ∧ ∀ a, fp a ↔ a = p
  | .ex c, v, fp => (∃ p A, v = .ref p ∧ C.mg c = some (.ref A) ∧ G p = some (XO A p)) ∧ ∀ a, ¬ fp a
  | .rs k d, v, fp => (C.rho k).rep C.K G H v d fp
  | .sc ns, v, fp => (∃ p, v = .ref p ∧ SqL C.K G p (ns.map V.int)) ∧ ∀ a, ¬ fp a
  | .tr t, v, fp => ∃ as, TOk C G H t v as ∧ as.Nodup ∧ ∀ a, fp a ↔ a ∈ as
section
variable {C : Cc} {G H G' H' : Hp} {b : B} {v : V} {fp : Addr → Prop}
theorem BOk.own (h : BOk C G H b v fp) : ∀ a, fp a → G a = none ∧ ∃ o, H a = some o := by
  cases b with
  | fr d => exact fun a q => absurd q (h.2 a)
  | ow ds =>
    obtain ⟨p, xs, _, h1, h2, _, h3⟩ := h
    intro a q
    obtain rfl := (h3 a).mp q
    exact ⟨h1, _, h2⟩
  | od ds =>
    obtain ⟨p, xs, _, h1, h2, _, _, h3⟩ := h
    intro a q
    obtain rfl := (h3 a).mp q
    exact ⟨h1, _, h2⟩
  | ex c => exact fun a q => absurd q (h.2 a)
  | rs k d => exact (C.rho k).own h
  | sc ns => exact fun a q => absurd q (h.2 a)
  | tr t =>
    obtain ⟨as, h1, _, h2⟩ := h
    exact fun a q => h1.own a ((h2 a).mp q)
theorem BOk.mono (h : BOk C G H b v fp) (e : Same G G') (k : ∀ a, fp a → H' a = H a ∧ G' a = G a) : BOk C G' H' b v fp := by
  cases b with
  | fr d => exact ⟨h.1.mono e, h.2⟩
  | ow ds =>
    obtain ⟨p, xs, e0, h1, h2, h4, h3⟩ := h
    have q := k p ((h3 p).mpr rfl)
    exact ⟨p, xs, e0, q.2.trans h1, q.1.trans h2, h4.mono e, h3⟩
  | od ds =>
    obtain ⟨p, xs, e0, h1, h2, h4, h5, h3⟩ := h
    have q := k p ((h3 p).mpr rfl)
    exact ⟨p, xs, e0, q.2.trans h1, q.1.trans h2, h4, h5.mono e, h3⟩
  | ex c =>
    obtain ⟨⟨p, A, h1, h2, h3⟩, h4⟩ := h
    exact ⟨⟨p, A, h1, h2, e _ _ h3⟩, h4⟩
  | rs n d => exact (C.rho n).frame h e k
  | sc ns =>
    obtain ⟨⟨p, h1, h2⟩, h4⟩ := h
    exact ⟨⟨p, h1, e.seq h2⟩, h4⟩
  | tr t =>
    obtain ⟨as, h1, h2, h3⟩ := h
    exact ⟨as, h1.mono e fun a ha => k a ((h3 a).mpr ha), h2, h3⟩
end
/-- read in H, its items in G -/
def Rq (K : PySem.W.Frag) (G H : Hp) (v : V) : PyData → Prop
  | .none => v = .non
  | .bool b => v = .bl b
  | .int i => v = .int i
  | .str x => v = .str x
  | .list ds => ∃ a xs, v = .ref a ∧ H a = some (.lst xs) ∧ RpAll K G xs ds
  | .tuple ds => ∃ a xs, v = .ref a ∧ G a = some (.tup xs) ∧ RpAll K G xs ds
  | .dict ds => ∃ a ks, v = .ref a ∧ H a = some (.dK ks) ∧ ks.map (fun p => kP p.1) = ds.map (·.1) ∧ RpAll K G (ks.map (·.2)) (ds.map (·.2))
section
variable {K : PySem.W.Frag} {G H : Hp} {v : V} {d : PyData}
theorem Rq.rp (h : Rq K G H v d) (s : Same G H) : Rp K H v d := by
  cases d with
  | none => cases h; exact .non
  | bool b => cases h; exact .bl b
  | int i => cases h; exact .int i
  | str x => cases h; exact .str x
  | list ds =>
    obtain ⟨a, xs, rfl, h1, h2⟩ := h
    exact .lst h1 (h2.mono s)
  | tuple ds =>
    obtain ⟨a, xs, rfl, h1, h2⟩ := h
    exact .tup (s _ _ h1) (h2.mono s)
  | dict ds =>
    obtain ⟨a, xs, rfl, h1, h2, h3⟩ := h
    exact .dic h1 h2 (h3.mono s)
theorem Rp.rq (h : Rp K G v d) (s : Same G H) : Rq K G H v d := by
  cases h with
  | non => rfl
  | bl b => rfl
  | int i => rfl
  | str x => rfl
  | lst h1 h2 => exact ⟨_, _, rfl, s _ _ h1, h2⟩
  | tup h1 h2 => exact ⟨_, _, rfl, h1, h2⟩
  | dic h1 h2 h3 => exact ⟨_, _, rfl, s _ _ h1, h2, h3⟩
theorem BOk.dat {C : Cc} {b : B} {fp : Addr → Prop} (h : BOk C G H b v fp) (s : Same G H) (hd : b.dat = some d) : Rq C.K G H v d := by
  cases b with
  | fr d' => cases hd; exact h.1.rq s
  | ow ds =>
    cases hd
    obtain ⟨p, xs, rfl, h1, h2, h4, h3⟩ := h
    exact ⟨p, xs, rfl, h2, h4⟩
  | od ds =>
    cases hd
    obtain ⟨p, xs, rfl, h1, h2, h4, h5, h3⟩ := h
    exact ⟨p, xs, rfl, h2, h4, h5⟩
  | ex c => cases hd
  | rs n d' => cases hd
  | sc ns => cases hd
  | tr t => cases hd
end
structure Mt (C : Cc) (π : List (Nat × V)) (e : Env) (σ : St) (w : WS) : Prop where
  len : e.length = σ.length
  sub : Same w.G w.H
  bok : ∀ i b, at? e i = some b → ∃ v, σ[i]? = some (some v) ∧ BOk C w.G w.H b v (w.fp i)
  non : ∀ i, at? e i = none → ∀ a, ¬ w.fp i a
  dis : ∀ i j a, w.fp i a → w.fp j a → i = j
  pin : ∀ p ∈ π, σ[p.1]? = some (some p.2)
structure Frm (w w' : WS) : Prop where
  g : Same w.G w'.G
  k : ∀ a o, w.H a = some o → (∀ i, ¬ w.fp i a) → w'.H a = some o ∧ w'.G a = w.G a ∧ ∀ i, ¬ w'.fp i a
  t : ∀ a, w'.H a = none → w.H a = none
theorem Frm.refl (w : WS) : Frm w w := ⟨Same.refl _, fun _ _ h n => ⟨h, rfl, n⟩, fun _ h => h⟩
theorem Frm.trans {w w1 w2 : WS} (a : Frm w w1) (b : Frm w1 w2) : Frm w w2 := by
  refine ⟨a.g.trans b.g, fun p o h n => ?_, fun p h => a.t p (b.t p h)⟩
  obtain ⟨h1, h2, h3⟩ := a.k p o h n
  obtain ⟨k1, k2, k3⟩ := b.k p o h1 h3
  exact ⟨k1, k2.trans h2, k3⟩
/-- what is new, or a name's own -/
theorem Frm.back {w w1 : WS} (f : Frm w w1) {a : Addr} (h : w1.H a = none ∨ ∃ i, w1.fp i a) : w.H a = none ∨ ∃ i, w.fp i a := by
  cases q : w.H a with
  | none => exact .inl rfl
  | some o =>
    by_cases hn : ∃ i, w.fp i a
    · exact .inr hn
    · obtain ⟨h1, h2, h3⟩ := f.k a o q fun i z => hn ⟨i, z⟩
      rcases h with h | ⟨i, h⟩
      · rw [h] at h1; cases h1
      · exact absurd h (h3 i)
theorem Mt.own {C : Cc} {π : List (Nat × V)} {e : Env} {σ : St} {w : WS} (m : Mt C π e σ w) {i : Nat} {a : Addr} (h : w.fp i a) : w.G a = none ∧ ∃ o, w.H a = some o := by
  cases q : at? e i with
  | none => exact absurd h (m.non i q a)
  | some b =>
    obtain ⟨v, _, k⟩ := m.bok i b q
    exact k.own a h
def OOk (C : Cc) (σ : St) (w w' : WS) : O → V → Prop
  | .s i, v => σ[i]? = some (some v)
  | .b b, v => ∃ fp : Addr → Prop, BOk C w'.G w'.H b v fp ∧ ∀ a, fp a → (w.H a = none ∨ ∃ i, w.fp i a) ∧ ∀ i, ¬ w'.fp i a
section
variable {C : Cc} {σ : St} {w w1 w2 w' : WS} {o : O} {v : V}
theorem OOk.step (h : OOk C σ w w1 o v) (f : Frm w1 w2) : OOk C σ w w2 o v := by
  cases o with
  | s i => exact h
  | b b =>
    obtain ⟨fp, h1, h2⟩ := h
    refine ⟨fp, h1.mono f.g fun a ha => ?_, fun a ha => ?_⟩
    · obtain ⟨hg, o, ho⟩ := h1.own a ha
      obtain ⟨k1, k2, k3⟩ := f.k a o ho (h2 a ha).2
      exact ⟨k1.trans ho.symm, k2⟩
    · obtain ⟨hg, o, ho⟩ := h1.own a ha
      exact ⟨(h2 a ha).1, (f.k a o ho (h2 a ha).2).2.2⟩
theorem OOk.base (h : OOk C σ w1 w' o v) (f : Frm w w1) : OOk C σ w w' o v := by
  cases o with
  | s i => exact h
  | b b =>
    obtain ⟨fp, h1, h2⟩ := h
    exact ⟨fp, h1, fun a ha => ⟨f.back (h2 a ha).1, (h2 a ha).2⟩⟩
theorem OOk.fr {d : PyData} (h : Rp C.K w'.G v d) : OOk C σ w w' (.b (.fr d)) v := ⟨fun _ => False, ⟨h, fun _ z => z⟩, fun _ z => z.elim⟩
end
/-- what follows a part -/
def Post {α β : Type} (C : Cc) (W : WX) (π : List (Nat × V)) (σ : St) (w : WS) (r : Option (Out α)) (rel : WS → α → β → Prop) (Q : β → Hp → Prop) : Prop := match r with
  | none => False
  | some (.ok a e) => ∀ b w', Mt C π e σ w' → Frm w w' → rel w' a b → Q b w'.H
  | some (.ex c e) => ∀ w' A, C.mg c = some (.ref A) → Mt C π e σ w' → Frm w w' → W (.ref A) none σ w'.H
section
variable {C : Cc} {W : WX} {π : List (Nat × V)} {σ : St} {w w1 : WS} {α β α' β' : Type} {r : Option (Out α)} {rel : WS → α → β → Prop} {Q : β → Hp → Prop} {rel' : WS → α' → β' → Prop} {Q' : β' → Hp → Prop} {k : α → Env → Option (Out α')}
theorem Post.from (h : Post C W π σ w r rel Q) (f : Frm w w1) : Post C W π σ w1 r rel Q := by
  cases r with
  | none => exact h
  | some x =>
    cases x with
    | ok a e => exact fun b w' m f' q => h b w' m (f.trans f') q
    | ex c e => exact fun w' A hA m f' => h w' A hA m (f.trans f')
theorem Post.reb {r : Option (Out O)} {Q : VK} (f : Frm w w1) (h : Post C W π σ w r (OOk C σ w) Q) : Post C W π σ w1 r (OOk C σ w1) Q := by
  cases r with
  | none => exact h
  | some x =>
    cases x with
    | ok a e => exact fun b w' m f' q => h b w' m (f.trans f') (q.base f)
    | ex c e => exact fun w' A hA m f' => h w' A hA m (f.trans f')
theorem Post.bnd (h : Post C W π σ w (bnd r k) rel' Q') (hk : ∀ a e b w1, Mt C π e σ w1 → Frm w w1 → rel w1 a b → Post C W π σ w (k a e) rel' Q' → Q b w1.H) : Post C W π σ w r rel Q := by
  cases r with
  | none => exact h
  | some x =>
    cases x with
    | ok a e => exact fun b w' m f q => hk a e b w' m f q h
    | ex c e => exact h
end
/-- f tells the expression of the reading t -/
def SE (C : Cc) (W : WX) (t : TE) (f : FE) : Prop := ∀ π env σ w Q, Mt C π env σ w → Post C W π σ w (f env) (OOk C σ w) Q → t σ w.H Q
def SD (C : Cc) (W : WX) (t : TA) (f : FD) : Prop := ∀ π env σ w Q, Mt C π env σ w → Post C W π σ w (f env) (fun w' ds vs => RpAll C.K w'.G vs ds) Q → t σ w.H Q
def SA (C : Cc) (W : WX) (t : TA) (f : FA) : Prop := ∀ π env σ w Q, Mt C π env σ w → Post C W π σ w (f env) (fun w' os vs => Paired (OOk C σ w w') os vs) Q → t σ w.H Q
def ST (C : Cc) (W : WX) (t : TT) (f : FT) : Prop := ∀ π env σ w Q, Mt C π env σ w → Post C W π σ w (f env) (fun _ b b' => b = b') Q → t σ w.H Q
def PostS (C : Cc) (W : WX) (π : List (Nat × V)) (w : WS) (r : Option SO) (D : Ends) : Prop := match r with
  | none => False
  | some (.nx e) => ∀ σ' w', Mt C π e σ' w' → Frm w w' → D.nx σ' w'.H
  | some (.rt b e) => ∀ v σ' w', Mt C π e σ' w' → Frm w w' → OOk C σ' w w' (.b b) v → D.rt v w'.H
  | some (.bk e) => ∀ σ' w', Mt C π e σ' w' → Frm w w' → D.bk σ' w'.H
  | some (.ct e) => ∀ σ' w', Mt C π e σ' w' → Frm w w' → D.ct σ' w'.H
  | some (.ex c e) => ∀ σ' w' A, C.mg c = some (.ref A) → Mt C π e σ' w' → Frm w w' → W (.ref A) none σ' w'.H
def SS (C : Cc) (W : WX) (pn : List Nat) (t : TS) (g : FS) : Prop := ∀ π env σ w D, (∀ p ∈ π, p.1 ∈ pn) → Mt C π env σ w → PostS C W π w (g env) D → t D σ w.H
section
variable {C : Cc} {W : WX} {π : List (Nat × V)} {σ : St} {w w1 : WS} {α β : Type} {r : Option (Out α)} {rel : WS → α → β → Prop} {Q : β → Hp → Prop} {D : Ends} {k : α → Env → Option SO}
theorem PostS.from {r : Option SO} (h : PostS C W π w r D) (f : Frm w w1) : PostS C W π w1 r D := by
  cases r with
  | none => exact h
  | some x =>
    cases x with
    | nx e => exact fun σ' w' m f' => h σ' w' m (f.trans f')
    | rt b e => exact fun v σ' w' m f' q => h v σ' w' m (f.trans f') (q.base f)
    | bk e => exact fun σ' w' m f' => h σ' w' m (f.trans f')
    | ct e => exact fun σ' w' m f' => h σ' w' m (f.trans f')
    | ex c e => exact fun σ' w' A hA m f' => h σ' w' A hA m (f.trans f')
theorem PostS.bnd (h : PostS C W π w (bndS r k) D) (hk : ∀ a e b w1, Mt C π e σ w1 → Frm w w1 → rel w1 a b → PostS C W π w (k a e) D → Q b w1.H) : Post C W π σ w r rel Q := by
  cases r with
  | none => exact h.elim
  | some x =>
    cases x with
    | ok a e => exact fun b w' m f q => hk a e b w' m f q h
    | ex c e => exact fun w' A hA m f => h σ w' A hA m f
end
section
variable {C : Cc} {π : List (Nat × V)} {e : Env} {σ : St} {w w0 : WS} {p : Addr} {o : HO}
/-- a new object -/
def WS.new (w : WS) (p : Addr) (o : HO) : WS := { w with H := upd w.H p o }
theorem Mt.new (m : Mt C π e σ w) (hp : w.H p = none) : Mt C π e σ (w.new p o) := by
  have hG : w.G p = none := m.sub.free hp
  refine ⟨m.len, fun a u q => ?_, fun i b q => ?_, m.non, m.dis, m.pin⟩
  · show upd w.H p o a = some u
    rw [upd_ne (ne_of_none q hG)]
    exact m.sub a u q
  · obtain ⟨v, h1, h2⟩ := m.bok i b q
    refine ⟨v, h1, h2.mono (Same.refl _) fun a ha => ⟨?_, rfl⟩⟩
    obtain ⟨_, u, hu⟩ := h2.own a ha
    exact upd_ne (ne_of_none hu hp)
theorem Frm.new (hp : w.H p = none) : Frm w (w.new p o) := by
  refine ⟨Same.refl _, fun a u h n => ⟨?_, rfl, n⟩, fun a h => ?_⟩
  · show upd w.H p o a = some u
    rw [upd_ne (ne_of_none h hp)]
    exact h
  · by_cases z : a = p
    · rw [z]; exact hp
    · have h' : upd w.H p o a = none := h
      rw [upd_ne z] at h'
      exact h'
/-- a thing at p, not owned by a name, frozen -/
def WS.frz (w : WS) (p : Addr) (o : HO) : WS := { w with G := upd w.G p o }
theorem Mt.frz (m : Mt C π e σ w) (hp : w.H p = some o) (hG : w.G p = none) (hn : ∀ i, ¬ w.fp i p) : Mt C π e σ (w.frz p o) := by
  have sG : Same w.G (upd w.G p o) := fun a u q => by rw [upd_ne (ne_of_none q hG)]; exact q
  refine ⟨m.len, fun a u q => ?_, fun i b q => ?_, m.non, m.dis, m.pin⟩
  · have q' : upd w.G p o a = some u := q
    by_cases z : a = p
    · subst z
      rw [upd_same] at q'
      cases q'
      exact hp
    · rw [upd_ne z] at q'
      exact m.sub a u q'
  · obtain ⟨v, h1, h2⟩ := m.bok i b q
    refine ⟨v, h1, h2.mono sG fun a ha => ⟨rfl, upd_ne fun z => hn i (by rw [← z]; exact ha)⟩⟩
theorem Frm.frz (f : Frm w0 w) (hp : w0.H p = none ∨ ∃ i, w0.fp i p) (hG : w.G p = none) : Frm w0 (w.frz p o) := by
  refine ⟨fun a u q => ?_, fun a u h n => ?_, f.t⟩
  · show upd w.G p o a = some u
    rw [upd_ne (ne_of_none (f.g a u q) hG)]
    exact f.g a u q
  · obtain ⟨h1, h2, h3⟩ := f.k a u h n
    refine ⟨h1, ?_, h3⟩
    show upd w.G p o a = w0.G a
    have ne : a ≠ p := fun z => by
      subst z
      rcases hp with hp | ⟨i, hp⟩
      · rw [hp] at h; cases h
      · exact n i hp
    rw [upd_ne ne]
    exact h2
/-- the thing at p, owned by the name i, frozen -/
def WS.frzO (w : WS) (i : Nat) (p : Addr) (o : HO) : WS := { w with G := upd w.G p o, fp := fun j a => w.fp j a ∧ j ≠ i }
theorem at_set_same {e : Env} {i : Nat} {x : Option B} {b : B} (h : at? e i = some b) : at? (e.set i x) i = x := by
  unfold at? at h ⊢
  have hi : i < e.length := by
    cases q : e[i]? with
    | none => rw [q] at h; cases h
    | some y => exact (List.getElem?_eq_some_iff.mp q).1
  rw [List.getElem?_set_self hi]
theorem at_set_lt {e : Env} {i : Nat} {x : Option B} (hi : i < e.length) : at? (e.set i x) i = x := by
  unfold at?
  rw [List.getElem?_set_self hi]
theorem at_set_ne {e : Env} {i j : Nat} {x : Option B} (h : i ≠ j) : at? (e.set i x) j = at? e j := by
  unfold at?
  rw [List.getElem?_set_ne h]
theorem Mt.frzO {i : Nat} {b b' : B} {v : V} (m : Mt C π e σ w) (hb : at? e i = some b) (hv : σ[i]? = some (some v)) (hp : w.H p = some o) (hG : w.G p = none) (hf : ∀ a, w.fp i a ↔ a = p) (hb' : BOk C (upd w.G p o) w.H b' v fun _ => False) :
    Mt C π (e.set i (some b')) σ (w.frzO i p o) := by
  have sG : Same w.G (upd w.G p o) := fun a u q => by rw [upd_ne (ne_of_none q hG)]; exact q
  refine ⟨by rw [List.length_set]; exact m.len, fun a u q => ?_, fun j c q => ?_, fun j q a z => ?_, fun j k a h1 h2 => m.dis j k a h1.1 h2.1, m.pin⟩
  · have q' : upd w.G p o a = some u := q
    by_cases z : a = p
    · subst z
      rw [upd_same] at q'
      cases q'
      exact hp
    · rw [upd_ne z] at q'
      exact m.sub a u q'
  · by_cases hj : i = j
    · subst hj
      rw [at_set_same hb] at q
      cases q
      refine ⟨v, hv, ?_⟩
      have e1 : (w.frzO i p o).fp i = fun _ => False := by
        funext a
        exact propext ⟨fun z => z.2 rfl, fun z => z.elim⟩
      rw [e1]
      exact hb'
    · rw [at_set_ne hj] at q
      obtain ⟨u, h1, h2⟩ := m.bok j c q
      have e1 : (w.frzO i p o).fp j = w.fp j := by
        funext a
        exact propext ⟨fun z => z.1, fun z => ⟨z, fun q => hj q.symm⟩⟩
      rw [e1]
      refine ⟨u, h1, h2.mono sG fun a ha => ⟨rfl, upd_ne fun z => ?_⟩⟩
      subst z
      exact hj (m.dis i j a ((hf a).mpr rfl) ha)
  · by_cases hj : i = j
    · subst hj
      exact z.2 rfl
    · rw [at_set_ne hj] at q
      exact m.non j q a z.1
theorem Frm.frzO {i : Nat} (f : Frm w0 w) (hG : w.G p = none) (hf : w.fp i p) : Frm w0 (w.frzO i p o) := by
  refine ⟨fun a u q => ?_, fun a u h n => ?_, f.t⟩
  · show upd w.G p o a = some u
    rw [upd_ne (ne_of_none (f.g a u q) hG)]
    exact f.g a u q
  · obtain ⟨h1, h2, h3⟩ := f.k a u h n
    refine ⟨h1, ?_, fun j z => h3 j z.1⟩
    show upd w.G p o a = w0.G a
    rw [upd_ne fun z => h3 i (by rw [z]; exact hf)]
    exact h2
end
/-- things at some addresses frozen; what i owns is owned no longer -/
def WS.frzT (w : WS) (i : Option Nat) (as : List Addr) : WS := { w with G := fun a => if a ∈ as then w.H a else w.G a, fp := fun j a => w.fp j a ∧ some j ≠ i }
section
variable {C : Cc} {π : List (Nat × V)} {e : Env} {σ : St} {w w0 : WS} {as : List Addr}
theorem frzT_same (i : Option Nat) (ho : ∀ a ∈ as, w.G a = none) : Same w.G (w.frzT i as).G := fun a o h => by
  show (if a ∈ as then w.H a else w.G a) = some o
  rw [if_neg fun z => by rw [ho a z] at h; cases h]
  exact h
theorem frzT_at (i : Option Nat) : ∀ a ∈ as, (w.frzT i as).G a = w.H a := fun a ha => if_pos ha
theorem frzT_out (i : Option Nat) {a : Addr} (h : a ∉ as) : (w.frzT i as).G a = w.G a := if_neg h
theorem frzT_sub (i : Option Nat) (m : Mt C π e σ w) : Same (w.frzT i as).G w.H := fun a o h => by
  have h' : (if a ∈ as then w.H a else w.G a) = some o := h
  split at h'
  · exact h'
  · exact m.sub a o h'
theorem Mt.frzTb (m : Mt C π e σ w) (ho : ∀ a ∈ as, w.G a = none) (hn : ∀ a ∈ as, ∀ i, ¬ w.fp i a) : Mt C π e σ (w.frzT none as) := by
  have e1 : ∀ j, (w.frzT none as).fp j = w.fp j := fun j => by funext a; exact propext ⟨fun z => z.1, fun z => ⟨z, nofun⟩⟩
  refine ⟨m.len, frzT_sub none m, fun j b q => ?_, fun j q a z => m.non j q a z.1, fun j k a x y => m.dis j k a x.1 y.1, m.pin⟩
  obtain ⟨v, h1, h2⟩ := m.bok j b q
  rw [e1]
  exact ⟨v, h1, h2.mono (frzT_same none ho) fun a ha => ⟨rfl, frzT_out none fun z => hn a z j ha⟩⟩
theorem Frm.frzTb (f : Frm w0 w) (hp : ∀ a ∈ as, w0.H a = none ∨ ∃ i, w0.fp i a) (ho : ∀ a ∈ as, w.G a = none) : Frm w0 (w.frzT none as) := by
  refine ⟨f.g.trans (frzT_same none ho), fun a o h n => ?_, f.t⟩
  obtain ⟨h1, h2, h3⟩ := f.k a o h n
  refine ⟨h1, (frzT_out none fun z => ?_).trans h2, fun i z => h3 i z.1⟩
  rcases hp a z with q | ⟨i, q⟩
  · rw [q] at h; cases h
  · exact n i q
theorem Mt.frzTs {i : Nat} {b b' : B} {v : V} (m : Mt C π e σ w) (hb : at? e i = some b) (hv : σ[i]? = some (some v)) (ho : ∀ a ∈ as, w.G a = none) (hf : ∀ a, w.fp i a ↔ a ∈ as) (hb' : BOk C (w.frzT (some i) as).G w.H b' v fun _ => False) :
    Mt C π (e.set i (some b')) σ (w.frzT (some i) as) := by
  refine ⟨by rw [List.length_set]; exact m.len, frzT_sub _ m, fun j c q => ?_, fun j q a z => ?_, fun j k a x y => m.dis j k a x.1 y.1, m.pin⟩
  · by_cases hj : i = j
    · subst hj
      rw [at_set_same hb] at q
      cases q
      have e1 : (w.frzT (some i) as).fp i = fun _ => False := by funext a; exact propext ⟨fun z => z.2 rfl, fun z => z.elim⟩
      rw [e1]
      exact ⟨v, hv, hb'⟩
    · rw [at_set_ne hj] at q
      obtain ⟨u, h1, h2⟩ := m.bok j c q
      have e1 : (w.frzT (some i) as).fp j = w.fp j := by funext a; exact propext ⟨fun z => z.1, fun z => ⟨z, fun q => hj (Option.some.inj q).symm⟩⟩
      rw [e1]
      exact ⟨u, h1, h2.mono (frzT_same _ ho) fun a ha => ⟨rfl, frzT_out _ fun z => hj (m.dis i j a ((hf a).mpr z) ha)⟩⟩
  · by_cases hj : i = j
    · subst hj
      exact z.2 rfl
    · rw [at_set_ne hj] at q
      exact m.non j q a z.1
theorem Frm.frzTs {i : Nat} (f : Frm w0 w) (ho : ∀ a ∈ as, w.G a = none) (hf : ∀ a, w.fp i a ↔ a ∈ as) : Frm w0 (w.frzT (some i) as) := by
  refine ⟨f.g.trans (frzT_same _ ho), fun a o h n => ?_, f.t⟩
  obtain ⟨h1, h2, h3⟩ := f.k a o h n
  exact ⟨h1, (frzT_out _ fun z => h3 i ((hf a).mpr z)).trans h2, fun j z => h3 j z.1⟩
end
theorem fz_sound {C : Cc} {π : List (Nat × V)} {e e' : Env} {σ : St} {w0 w : WS} {o : O} {v : V} {d : PyData} (m : Mt C π e σ w) (f : Frm w0 w) (h : OOk C σ w0 w o v) (hz : fz e o = some (d, e')) :
    ∃ w', Mt C π e' σ w' ∧ Frm w0 w' ∧ w'.H = w.H ∧ Rp C.K w'.G v d := by
  cases o with
  | s i =>
    have hv : σ[i]? = some (some v) := h
    unfold fz at hz
    cases q : at? e i with
    | none => simp [q] at hz
    | some b =>
      obtain ⟨u, h1, h2⟩ := m.bok i b q
      rw [hv] at h1
      cases h1
      cases b with
      | fr d' =>
        simp only [q] at hz
        cases hz
        exact ⟨w, m, f, rfl, h2.1⟩
      | ow ds =>
        simp only [q] at hz
        cases hz
        obtain ⟨p, xs, rfl, g1, g2, g4, g3⟩ := h2
        have sG : Same w.G (upd w.G p (.lst xs)) := fun a u q => by rw [upd_ne (ne_of_none q g1)]; exact q
        have r : Rp C.K (upd w.G p (.lst xs)) (.ref p) (.list ds) := .lst upd_same (g4.mono sG)
        exact ⟨w.frzO i p (.lst xs), m.frzO q hv g2 g1 g3 ⟨r, fun _ z => z⟩, f.frzO g1 ((g3 p).mpr rfl), rfl, r⟩
      | od ds =>
        simp only [q] at hz
        cases hz
        obtain ⟨p, xs, rfl, g1, g2, g4, g5, g3⟩ := h2
        have sG : Same w.G (upd w.G p (.dK xs)) := fun a u q => by rw [upd_ne (ne_of_none q g1)]; exact q
        have r : Rp C.K (upd w.G p (.dK xs)) (.ref p) (.dict ds) := .dic upd_same g4 (g5.mono sG)
        exact ⟨w.frzO i p (.dK xs), m.frzO q hv g2 g1 g3 ⟨r, fun _ z => z⟩, f.frzO g1 ((g3 p).mpr rfl), rfl, r⟩
      | ex c => simp [q] at hz
      | rs n d' => simp [q] at hz
      | sc ns => simp [q] at hz
      | tr t =>
        simp only [q] at hz
        cases qd : t.dat with
        | none => rw [qd] at hz; cases hz
        | some d' =>
          rw [qd] at hz
          cases hz
          obtain ⟨as, g1, g2, g3⟩ := h2
          have ho := fun a ha => (g1.own a ha).1
          have r := g1.rp (frzT_same (some i) ho) (frzT_at (some i)) qd
          exact ⟨w.frzT (some i) as, m.frzTs q hv ho g3 ⟨r, fun _ z => z⟩, f.frzTs ho g3, rfl, r⟩
  | b b =>
    obtain ⟨fp, h1, h2⟩ := h
    cases b with
    | fr d' =>
      cases hz
      exact ⟨w, m, f, rfl, h1.1⟩
    | ow ds =>
      cases hz
      obtain ⟨p, xs, rfl, g1, g2, g4, g3⟩ := h1
      have hp := h2 p ((g3 p).mpr rfl)
      have sG : Same w.G (upd w.G p (.lst xs)) := fun a u q => by rw [upd_ne (ne_of_none q g1)]; exact q
      exact ⟨w.frz p (.lst xs), m.frz g2 g1 hp.2, f.frz hp.1 g1, rfl, .lst upd_same (g4.mono sG)⟩
    | od ds =>
      cases hz
      obtain ⟨p, xs, rfl, g1, g2, g4, g5, g3⟩ := h1
      have hp := h2 p ((g3 p).mpr rfl)
      have sG : Same w.G (upd w.G p (.dK xs)) := fun a u q => by rw [upd_ne (ne_of_none q g1)]; exact q
      exact ⟨w.frz p (.dK xs), m.frz g2 g1 hp.2, f.frz hp.1 g1, rfl, .dic upd_same g4 (g5.mono sG)⟩
    | ex c => cases hz
    | rs n d' => cases hz
    | sc ns => cases hz
    | tr t =>
      have hz' : (t.dat.map fun d => (d, e)) = some (d, e') := hz
      cases qd : t.dat with
      | none => rw [qd] at hz'; cases hz'
      | some d' =>
        rw [qd] at hz'
        cases hz'
        obtain ⟨as, g1, g2, g3⟩ := h1
        have ho := fun a ha => (g1.own a ha).1
        exact ⟨w.frzT none as, m.frzTb ho fun a ha => (h2 a ((g3 a).mpr ha)).2, f.frzTb (fun a ha => (h2 a ((g3 a).mpr ha)).1) ho, rfl, g1.rp (frzT_same none ho) (frzT_at none) qd⟩
theorem fzB_sound {C : Cc} {π : List (Nat × V)} {e e' : Env} {σ : St} {w0 w : WS} {o : O} {v : V} {b : B} (m : Mt C π e σ w) (f : Frm w0 w) (h : OOk C σ w0 w o v) (hz : fzB e o = some (b, e')) :
    ∃ w', Mt C π e' σ w' ∧ Frm w0 w' ∧ w'.H = w.H ∧ BOk C w'.G w'.H b v (fun _ => False) := by
  have main : ∀ o', o' = o → (fz e o').map (fun p => (B.fr p.1, p.2)) = some (b, e') → ∃ w', Mt C π e' σ w' ∧ Frm w0 w' ∧ w'.H = w.H ∧ BOk C w'.G w'.H b v (fun _ => False) := by
    rintro o' rfl hq
    cases q : fz e o' with
    | none => rw [q] at hq; cases hq
    | some p =>
      rw [q] at hq
      cases hq
      obtain ⟨w', h1, h2, h3, h4⟩ := fz_sound (e' := p.2) m f h q
      exact ⟨w', h1, h2, h3, h4, fun _ z => z⟩
  cases o with
  | s i =>
    cases q : at? e i with
    | none =>
      simp only [fzB, q] at hz
      exact main _ rfl hz
    | some c =>
      simp only [fzB, q] at hz
      cases c with
      | ex c =>
        cases hz
        have hv : σ[i]? = some (some v) := h
        obtain ⟨u, h1, h2⟩ := m.bok i _ q
        rw [hv] at h1
        cases h1
        exact ⟨w, m, f, rfl, h2.1, fun _ z => z⟩
      | fr d => exact main _ rfl hz
      | ow d => exact main _ rfl hz
      | od d => exact main _ rfl hz
      | rs n d => exact main _ rfl hz
      | tr t => exact main _ rfl hz
      | sc ns =>
        cases hz
        have hv : σ[i]? = some (some v) := h
        obtain ⟨u, h1, h2⟩ := m.bok i _ q
        rw [hv] at h1
        cases h1
        exact ⟨w, m, f, rfl, h2.1, fun _ z => z⟩
  | b c =>
    cases c with
    | ex c =>
      cases hz
      obtain ⟨fp, h1, h2⟩ := h
      exact ⟨w, m, f, rfl, h1.1, fun _ z => z⟩
    | fr d => exact main _ rfl hz
    | ow d => exact main _ rfl hz
    | od d => exact main _ rfl hz
    | rs n d => exact main _ rfl hz
    | tr t => exact main _ rfl hz
    | sc ns =>
      cases hz
      obtain ⟨fp, h1, h2⟩ := h
      exact ⟨w, m, f, rfl, h1.1, fun _ z => z⟩
/-- what is read -/
theorem res_sound {C : Cc} {π : List (Nat × V)} {e : Env} {σ : St} {w0 w : WS} {o : O} {v : V} {d : PyData} (m : Mt C π e σ w) (h : OOk C σ w0 w o v) (hr : res e o = some d) : Rq C.K w.G w.H v d := by
  cases o with
  | s i =>
    have hv : σ[i]? = some (some v) := h
    cases q : at? e i with
    | none => simp [res, q] at hr
    | some b =>
      simp only [res, q, Option.bind_some] at hr
      obtain ⟨u, h1, h2⟩ := m.bok i _ q
      rw [hv] at h1
      cases h1
      exact h2.dat m.sub hr
  | b b =>
    obtain ⟨fp, h1, h2⟩ := h
    exact h1.dat m.sub hr
end VL
set_option maxRecDepth 100000
namespace VL
open PySem L2 PySem.Spec PyProof.Rows
/-- sys.modules stands in the ground -/
def SmB (base : Heap) : Prop := ∃ o, base.get? sysModules = some o
/-- FnOk where no guard stands around -/
structure FnG (P : Program) (w : World) (K : PySem.W.Frag) (mg : Str → Option Value) (base : Heap) (k : Nat) (f : Addr) (fd : FuncData) (ps : List Str) (sp : Sp) : Prop where
  cnt : ∀ vs H Q E, sp vs H Q E → vs.length = ps.length
  go : ∀ (A : Around) (out : List PySem.Env) (s : Shared) (H : Hp) (ar : Args) (us : List Value) (vs : List V) (Q : VK) (E : XK), Room k A → A.guards = some [] → SmB base → Env0 P w K mg base A out s H → BindsTo s fd ar (ps.zip us) → Vals vs us → sp vs H Q E →
    codeAny (model P w) A (.call (.ref f) ar) (CR (L2.CX P w) out P w H s Q E) s
section
variable {X : Cx} {k : Nat} {f : Addr} {fd : FuncData} {ps : List Str} {sp : Sp} {E : L2.St → XK} {x : Str} {p pos : Pos} {e : Expr} {es : List Expr} {t : TA}
theorem FnG.runs {pins : List (Addr × Obj)} {σ : L2.St} {H : Hp} {s : Shared} {Q : VK} {us : List Value} {vs : List V} (Fg : FnG X.prog X.w X.K X.mg X.base k f fd ps sp) (rm : Room k X.A) (gd : X.A.guards = some []) (sm : SmB X.base) (bn : Binds X.K fd ps [])
    (ps1 : PassesAt (L2.CX X.prog X.w) X σ (E σ)) (J : Inv X pins σ H s) (rv : Vals vs us) (hs : sp vs H Q (E σ)) : wpAny (model X.prog X.w) X.A (call (.ref f) us) (EP X pins σ Q) X.xe s := by
  have ln : us.length = ps.length := rv.length.symm.trans (Fg.cnt _ _ _ _ hs)
  have bb := bn s us J.kIn (by rw [List.append_nil, ln]); rw [List.append_nil] at bb
  refine wpAny_call (codeAny_mono (Fg.go X.A X.stack s H ⟨us, []⟩ us vs Q (E σ) rm gd sm J.env0 bb rv hs) fun res s2 ce => ?_)
  rcases res with er | fl
  · exact ps1 pins H s er s2 J ce
  · rcases fl with _ | _ | _ | u
    all_goals first | exact J.after ce | exact ce.elim
theorem pe_callG (Fg : FnG X.prog X.w X.K X.mg X.base k f fd ps sp) (rm : Room k X.A) (gd : X.A.guards = some []) (sm : SmB X.base) (gl : Gl X x) (mm : X.mg x = some (.ref f)) (kk : PySem.W.keepIn X.K (.ref f) = true) (bn : Binds X.K fd ps []) (px : ∀ σ, PassesAt (L2.CX X.prog X.w) X σ (E σ))
    (pa : PA X (e :: es) t) (db : (x == ("__debug__" : Str)) = false) (he : starEach (e :: es) X.env = (false, eval e X.env) :: starEach es X.env) (hp : (backTo pos (starEach es X.env)).any (·.1) = false) :
    PE X (.Call (.Name x p) (e :: es) [] pos) (tCallS sp E t) := by
  refine ⟨fun pins s σ H Q J h => wpAny_Call_Name_kw (ld_glob J gl mm (PySem.W.callWith_K (h₀ := X.base) J.ok.mod.kin kk (thn (pa.run pos pins s σ H _ J h) fun us s1 ⟨vs, H1, J1, r, q⟩ => ⟨J1.kIn, ?_⟩) he hp) db)⟩
  exact Fg.runs rm gd sm bn (px σ) J1 r q
end
section
variable {P : Program} {w : World} {K : PySem.W.Frag} {mg : Str → Option Value} {base : Heap} {x qual : Str} {params : Arguments} {body : List Stmt} {scope : Scope} {dvs : List V} {kws : List (Str × V)} {f : Addr} {fd : FuncData}
theorem fnG_of {N ps : List Str} {k : Nat} {sp : Sp} (F : FunD K x qual params body scope dvs kws f fd) (S : FnScope N ps scope) (cn : ∀ vs H Q E, sp vs H Q E → vs.length = ps.length)
    (hb : ∀ (cdv : Value) (A : Around) (out : List PySem.Env) (s : Shared) (H : Hp) (vs : List V) (Q : VK) (E : XK), Room k (A.deeper (envOfC qual scope s.heap.objs.size f cdv)) → A.guards = some [] → SmB base → sp vs H Q E →
      ∃ t, PSs (cxOf (L2.CX P w) P w K mg base N qual scope f cdv A out s H E) body t ∧ t { nx := fun _ H' => Q .non H', rt := Q } (L2.start N vs) H) : FnG P w K mg base (k + 1) f fd ps sp := by
  obtain ⟨oc, od, dV, kV, doc, pm, an, cdv, ct, osl, rfl, lk, hcd, _, _⟩ := F.ex
  refine ⟨cn, fun A out s H ar us vs Q E rm gd sm e0 bd rv hs => ?_⟩
  have kin : K.In s.heap := e0.mod.kin.keeps fun b o z => (e0.bs b o z).1
  have nol : s.heap.NoLimit := e0.mod.nolimit.keeps fun b o z => (e0.bs b o z).1
  have kinds : ∀ y ∈ ps.zip us, scope.names.lookup y.1 = some .local ∨ (scope.names.lookup y.1 = some .cell ∧ ((cellsFrom (s.heap.objs.size + 1) scope.names []).lookup y.1).isSome = true) := by
    rintro ⟨n, v⟩ hy
    exact (S.par n (List.of_mem_zip hy).1).elim .inl fun z => .inr ⟨z, PySem.W.cellsFrom_some _ _ _ (.inl z)⟩
  refine codeAny_call_function rm.depth (kin _ _ lk) rfl S.co S.gen rfl (PySem.W.codeRec_of kin hcd) (bd _ _ _ _ (wpAny_newFunctionEnv_cells S.kind kinds fun env he s1 ic => ?_))
  subst he
  refine ⟨nol.keeps ic.toInCall.keep, codeAny_func ?_⟩
  obtain ⟨t, pt, qt⟩ := hb cdv A out s H vs Q E (rm.deeper _) gd sm hs
  refine wpAny_mono (pt.run [] s1 (L2.start N vs) H _ (inv_start S rm.hd e0 (cn _ _ _ _ hs) rv ic) qt) (fun fl s' z => ?_) fun er s' z => z
  have done : ∀ {σ' : L2.St} {H' : Hp} {v : V} {u : Value}, Inv (cxOf (L2.CX P w) P w K mg base N qual scope f cdv A out s H E) [] σ' H' s' → RelV v u → Q v H' → CE out P w H s Q u s' :=
    fun {_ H' v _} J r2 q => ⟨v, H', J.os, J.bare, J.base, J.hok, r2, q⟩
  rcases fl with _ | _ | _ | u
  all_goals first
    | (obtain ⟨v, σ', H', J, r2, q⟩ := z; exact done J r2 q)
    | (obtain ⟨σ', H', J, q⟩ := z; exact done (v := V.non) (u := Value.none) J rfl q)
    | (obtain ⟨_, _, _, q⟩ := z; exact q.elim)
end
end VL
set_option maxRecDepth 100000
namespace VL
open PySem L2 PySem.Spec PyProof.Rows
theorem ends_of {P : Program} {w : World} {K : PySem.W.Frag} {mg mb : Str → Option Value} {k : Nat} {fa a : Addr} {fd : FuncData} {x : Str} {sp : Sp} {s₁ : Shared} {vs : List Value} {H : Hp}
    (kx : K.In s₁.heap) (gl : s₁.heap.Ns mainGlobals mg) (bl : s₁.heap.Ns builtinsNs mb) (bb : ∀ x : Str, x ≠ "__name__" → mb x = bootBuiltins x) (nl : s₁.heap.NoLimit) (smn : ∃ mm, s₁.heap.Ns sysModules mm) (gn : s₁.gens = #[])
    (ea : s₁.heap.get? a = some { cls := .type "list", data := .seq vs.toArray }) (rm : Room k callerA)
    (Fg : ∀ base : Heap, K.In base → base.Ns mainGlobals mg → FnG P w K mg base k fa fd [x] sp) (bd : ∀ (s : Shared) (u : Value), BindsTo s fd ⟨[u], []⟩ [(x, u)])
    (on : Only H) (ok : HOk P w H s₁.heap) (oa : ∀ b, H b ≠ none → b = a) (ka : H a ≠ none → K.lookup a = none) (hsp : sp [.ref a] H (fun v _ => v = .bl true) fun _ _ _ => False) :
    codeAny (model P w) callerA (.call (.ref fa) ⟨[.ref a], []⟩) (fun r s' => r = .ok (.ret (.bool true)) ∧ OldK s₁.heap s'.heap ∧ s'.os = s₁.os ∧ AllBare s'.gens) s₁ := by
  have hid : ∀ {b : Addr} {o : Obj}, s₁.heap.get? b = some o → H b = none → (hidT s₁.heap H).get? b = some o := hidT_get
  have notd : ∀ {b : Addr} {o : Obj} {es : Array DictEntry} {ep : Nat}, s₁.heap.get? b = some o → o.data = .dict es ep → H b = none := by
    intro b o es ep z dz
    by_cases q : H b = none
    · exact q
    · obtain rfl := oa b q
      rw [ea] at z
      obtain rfl := Option.some.inj z
      cases (show Data.seq vs.toArray _ = Data.dict es ep from dz)
  have nss : ∀ {b : Addr} {m : Str → Option Value}, s₁.heap.Ns b m → (hidT s₁.heap H).Ns b m := by
    rintro b m ⟨o, es, ep, z, dz, rr⟩
    exact ⟨o, es, ep, hid z (notd z dz), dz, rr⟩
  have kb : K.In (hidT s₁.heap H) := by
    intro b o z
    refine hid (kx b o z) ?_
    by_cases q : H b = none
    · exact q
    · obtain rfl := oa b q
      rw [ka q] at z
      cases z
  obtain ⟨mc, n1, n2⟩ := nl
  have md : Mod K mg (hidT s₁.heap H) := ⟨kb, nss gl, ⟨mb, nss bl, bb⟩, ⟨mc, nss n1, n2⟩⟩
  have en : Env0 P w K mg (hidT s₁.heap H) callerA [] s₁ H := ⟨rfl, md, fun b o z => of_hidT z, Nat.le_of_eq (hidT_size _ _), trivial, nofun, ok, .of_eq gn⟩
  refine codeAny_mono ((Fg _ kb (nss gl)).go callerA [] s₁ H ⟨[.ref a], []⟩ [.ref a] [.ref a] _ _ rm rfl (let ⟨mm, zz⟩ := smn; let ⟨o, _, _, z1, _⟩ := nss zz; ⟨o, z1⟩) en (bd s₁ (.ref a)) (.cons rfl .nil) hsp) ?_
  rintro (er | fl) s' hh
  · obtain ⟨_, _, _, _, _, _, _, _, _, _, _, _, z⟩ := hh
    exact z.elim
  · rcases fl with _ | _ | _ | u
    · exact False.elim hh
    · exact False.elim hh
    · exact False.elim hh
    obtain ⟨v, H', os, br, un, ok', rr, qq⟩ := hh
    obtain rfl : v = .bl true := qq
    obtain rfl : u = Value.bool true := rr
    refine ⟨rfl, OldK.of_keep fun b o z => ?_, os, br⟩
    rcases on b with q | ⟨ob, xs, q⟩
    · exact un.keep b o z q nofun nofun
    · obtain ⟨z1, _⟩ := ok b _ q
      obtain ⟨z2, _⟩ := ok' b _ (un.frzs b ob _ q)
      rw [z] at z1
      cases z1
      exact z2
theorem law_ends {P : Program} {w : World} {K : PySem.W.Frag} {mg mb : Str → Option Value} {k : Nat} {fa a : Addr} {fd : FuncData} {x : Str} {sp : Sp} {s₁ : Shared} {vs : List Value} {ns : List Int}
    (kx : K.In s₁.heap) (gl : s₁.heap.Ns mainGlobals mg) (bl : s₁.heap.Ns builtinsNs mb) (bb : ∀ x : Str, x ≠ "__name__" → mb x = bootBuiltins x) (nl : s₁.heap.NoLimit) (smn : ∃ mm, s₁.heap.Ns sysModules mm) (gn : s₁.gens = #[])
    (ea : s₁.heap.get? a = some { cls := .type "list", data := .seq vs.toArray }) (ia : IntsAre vs ns) (hl : ns.length ≤ sizeLine) (rm : Room k callerA)
    (Fg : ∀ base : Heap, K.In base → base.Ns mainGlobals mg → FnG P w K mg base k fa fd [x] sp) (bd : ∀ (s : Shared) (u : Value), BindsTo s fd ⟨[u], []⟩ [(x, u)])
    (hsp : ∀ H : Hp, Only H → SqL K H a (ns.map V.int) → sp [.ref a] H (fun v _ => v = .bl true) fun _ _ _ => False) :
    codeAny (model P w) callerA (.call (.ref fa) ⟨[.ref a], []⟩) (fun r s' => r = .ok (.ret (.bool true)) ∧ OldK s₁.heap s'.heap ∧ s'.os = s₁.os ∧ AllBare s'.gens) s₁ := by
  have vv := vals_ints ia
  by_cases hk : K.lookup a = none
  · let G : Hp := fun b => if b = a then some (.frz { cls := .type "list", data := .seq vs.toArray } (.lst (ns.map V.int))) else none
    have gs : G a = some (.frz { cls := .type "list", data := .seq vs.toArray } (.lst (ns.map V.int))) := if_pos rfl
    have gn' : ∀ b, b ≠ a → G b = none := fun b z => if_neg z
    have oa : ∀ b, G b ≠ none → b = a := fun b z => Decidable.byContradiction fun n => z (gn' b n)
    have on : Only G := fun b => by
      by_cases z : b = a
      · subst z; exact .inr ⟨_, _, gs⟩
      · exact .inl (gn' b z)
    refine ends_of kx gl bl bb nl smn gn ea rm Fg bd on (fun b u z => ?_) oa (fun _ => hk) (hsp G on (.inl (.inr ⟨_, gs⟩)))
    obtain rfl := oa b (by rw [z]; exact nofun)
    rw [gs] at z
    obtain rfl := Option.some.inj z
    exact ⟨ea, by rw [List.length_map]; exact hl, vs, _, vv, ea⟩
  · obtain ⟨o, ho⟩ := Option.ne_none_iff_exists'.mp hk
    have z := kx a o ho
    rw [ea] at z
    obtain rfl := Option.some.inj z
    have on : Only (fun _ => none) := fun _ => .inl rfl
    refine ends_of kx gl bl bb nl smn gn ea rm Fg bd on (fun b u q => nomatch (show (none : Option HO) = some u from q)) (fun b q => absurd rfl q) (fun q => absurd rfl q) (hsp _ on ?_)
    exact .inr ⟨_, vs.toArray, _, ho, rfl, rfl, rfl, by rw [List.size_toArray, ia.length]; exact hl, by simpa using vv⟩
/-- a law's end, by facts of the head -/
theorem walk_ofG {l : PySem.W.OpenLaw} {n k : Nat} {q : Program} {loose : List Str} {XP : (Str → Option Value) → Heap → Prop} {YP : World → Heap → Prop} {d : DefRec} {x : Str}
    (hn : l.most = some n) (hn2 : n ≤ sizeLine) (hdf : d.params.defaults = []) (hr : Room k callerA) (him : importsNone q = true)
    (F : ∀ (w : World) (mg : Str → Option Value) (fa : Addr) (h : Heap), YP w h → h.Ns mainGlobals mg → mg d.name = some (.ref fa) →
      ∃ (K : PySem.W.Frag) (fd : FuncData) (sp : Sp), K.In h ∧ (∀ (s : Shared) (u : Value), PySem.BindsTo s fd ⟨[u], []⟩ [(x, u)]) ∧
        (∀ (H : Hp) (a : Addr) (ns : List Int), ns.length ≤ n → Only H → SqL K H a (ns.map V.int) → sp [.ref a] H (fun v _ => v = .bl true) fun _ _ _ => False) ∧
        ∀ base : Heap, K.In base → base.Ns mainGlobals mg → FnG l.prog w K mg base k fa fd [x] sp) :
    PySem.W.WalkO q loose XP YP l.row.toRowW d [] (fun f vs => PySem.call f vs) := by
  refine Att.attach_call hn hdf ?_
  intro w s₀ s₁ mg mb fa o pm cd doc a vs ns G Y ho hd hcd hmg hobj hints hlen hg
  obtain ⟨K, fd, sp, KX, hb, hsp, hF⟩ := F w mg fa _ Y G.T.g hmg
  exact law_ends KX G.T.g G.T.b G.T.builtins G.T.nolimit (let ⟨mm, z, _⟩ := (G.T.seer him).mods; ⟨mm, z⟩) hg hobj hints (Nat.le_trans hlen hn2) hr hF hb fun H hO hS => hsp H a ns hlen hO hS
end VL
set_option maxRecDepth 100000
namespace VL
open PySem L2
/-- what stands around: no error in hand, room, names of their own, the built-ins -/
structure Vx (X : Cx) (W : WX) : Prop where
  calm : X.calm = true
  room : Room 1 X.A
  gd : X.A.guards = some []
  sm : SmB X.base
  nd : X.N.Nodup
  tk : Takes X W
  po : PassesOwn (model X.prog X.w) X.A X.env X.xe
def cc (X : Cx) (ρ : Nat → Res) : Cc := ⟨X.K, X.mg, ρ⟩
def VE (X : Cx) (ρ : Nat → Res) (W : WX) (e : Expr) (f : FE) : Prop := ∃ t, PE X e t ∧ SE (cc X ρ) W t f
def VD (X : Cx) (ρ : Nat → Res) (W : WX) (es : List Expr) (f : FD) : Prop := ∃ t, PA X es t ∧ SD (cc X ρ) W t f
def VA (X : Cx) (ρ : Nat → Res) (W : WX) (es : List Expr) (f : FA) : Prop := ∃ t, PA X es t ∧ SA (cc X ρ) W t f
def VT (X : Cx) (ρ : Nat → Res) (W : WX) (e : Expr) (f : FT) : Prop := ∃ t, PT X e t ∧ ST (cc X ρ) W t f
/-- and, or: whatever the whole is -/
def VW (X : Cx) (ρ : Nat → Res) (W : WX) (e : Expr) (f : FT) : Prop := ∃ t, PW X e t ∧ ST (cc X ρ) W t f
section
variable {C : Cc} {π : List (Nat × V)} {e : Env} {σ : St} {w : WS} {p : Addr}
theorem Mt.notOwned (m : Mt C π e σ w) (hp : w.H p = none) (i : Nat) : ¬ w.fp i p := fun h => by
  obtain ⟨_, o, ho⟩ := m.own h
  rw [hp] at ho
  cases ho
/-- a new list -/
theorem mk_lst {zs : List V} {es : List PyData} (m : Mt C π e σ w) (hp : w.H p = none) (r : RpAll C.K w.G zs es) :
    Mt C π e σ (w.new p (.lst zs)) ∧ Frm w (w.new p (.lst zs)) ∧ OOk C σ w (w.new p (.lst zs)) (.b (.ow es)) (.ref p) :=
  ⟨m.new hp, .new hp, fun a => a = p, ⟨p, zs, rfl, m.sub.free hp, upd_same, r, fun _ => Iff.rfl⟩, fun a ha => by subst ha; exact ⟨.inl hp, m.notOwned hp⟩⟩
theorem mk_dic {ks : List (Key × V)} {es : List (PyData × PyData)} (m : Mt C π e σ w) (hp : w.H p = none) (k : ks.map (fun q => kP q.1) = es.map (·.1)) (r : RpAll C.K w.G (ks.map (·.2)) (es.map (·.2))) :
    Mt C π e σ (w.new p (.dK ks)) ∧ Frm w (w.new p (.dK ks)) ∧ OOk C σ w (w.new p (.dK ks)) (.b (.od es)) (.ref p) :=
  ⟨m.new hp, .new hp, fun a => a = p, ⟨p, ks, rfl, m.sub.free hp, upd_same, k, r, fun _ => Iff.rfl⟩, fun a ha => by subst ha; exact ⟨.inl hp, m.notOwned hp⟩⟩
/-- a new tuple, frozen -/
theorem mk_tup {zs : List V} {es : List PyData} (m : Mt C π e σ w) (hp : w.H p = none) (r : RpAll C.K w.G zs es) :
    ∃ w', Mt C π e σ w' ∧ Frm w w' ∧ w'.H = upd w.H p (.tup zs) ∧ OOk C σ w w' (.b (.fr (.tuple es))) (.ref p) := by
  have hG : w.G p = none := m.sub.free hp
  have sG : Same w.G (upd w.G p (.tup zs)) := fun a u q => by rw [upd_ne (ne_of_none q hG)]; exact q
  refine ⟨(w.new p (.tup zs)).frz p (.tup zs), (m.new hp).frz upd_same hG (fun i => m.notOwned hp i), (Frm.new hp).frz (.inl hp) hG, rfl, .fr (.tup upd_same (r.mono sG))⟩
end
section
variable {X : Cx} {ρ : Nat → Res} {W : WX} {a b c : Expr} {pos : Pos} {fa fb fc : FE} {ta tb tc : FT}
theorem ve_var (i : Nat) {x : Str} (hN : X.N[i]? = some x := by rfl) (hv : Vis X.env.scope x := by first | exact Or.inl rfl | exact Or.inr (Or.inl rfl) | exact Or.inr (Or.inr rfl)) (hd : (x == ("__debug__" : Str)) = false := by decide)
    (hcd : (x == ("__classdict__" : Str)) = false := by decide) : VE X ρ W (.Name x pos) (fVar i) := by
  refine ⟨_, pe_var hN hv hd hcd, fun π e σ w Q m h => ?_⟩
  unfold fVar at h
  cases q : at? e i with
  | none => rw [q] at h; exact h.elim
  | some b =>
    rw [q] at h
    obtain ⟨v, h1, h2⟩ := m.bok i b q
    exact ⟨v, h1, h v w m (.refl w) h1⟩
theorem se_c {C : Cc} {v : V} {d : PyData} (h : ∀ G, Rp C.K G v d) : SE C W (tC v) (fC d) := fun π e σ w Q m k => k v w m (.refl w) (.fr (h _))
theorem ve_int {i j} : VE X ρ W (.Constant (.int i) j pos) (fC (.int i)) := ⟨_, pe_int, se_c fun _ => .int i⟩
theorem ve_bl {i j} : VE X ρ W (.Constant (.bool i) j pos) (fC (.bool i)) := ⟨_, pe_bl, se_c fun _ => .bl i⟩
theorem ve_str {i j} : VE X ρ W (.Constant (.str i) j pos) (fC (.str i)) := ⟨_, pe_str, se_c fun _ => .str i⟩
/-- a constant of the module -/
theorem ve_glob {x : Str} {v : V} {u : Value} {d : PyData} (hm : X.mg x = some u) (r : RelV v u) (h : ∀ G, Rp X.K G v d) (hg : Gl X x := by rfl) (hd : (x == ("__debug__" : Str)) = false := by decide) : VE X ρ W (.Name x pos) (fC d) :=
  ⟨_, pe_glob hg hm r hd, se_c h⟩
def OpV (X : Cx) (ρ : Nat → Res) (F : Value → Value → Sem Value) (op : PyData → PyData → Option B) : Prop := ∃ r, OpR X F r ∧
  ∀ π e σ w x y dx dy z Q, Mt (cc X ρ) π e σ w → Rq X.K w.G w.H x dx → Rq X.K w.G w.H y dy → op dx dy = some z → (∀ v w', Mt (cc X ρ) π e σ w' → Frm w w' → OOk (cc X ρ) σ w w' (.b z) v → Q v w'.H) → r x y w.H Q
theorem se_bin {C : Cc} {r : R2} {op : PyData → PyData → Option B} {ta tb : TE} (hr : ∀ π e σ w x y dx dy z Q, Mt C π e σ w → Rq C.K w.G w.H x dx → Rq C.K w.G w.H y dy → op dx dy = some z → (∀ v w', Mt C π e σ w' → Frm w w' → OOk C σ w w' (.b z) v → Q v w'.H) → r x y w.H Q)
    (ha : SE C W ta fa) (hb : SE C W tb fb) : SE C W (tOp r ta tb) (fBin op fa fb) := fun π e σ w Q m h => by
  refine ha π e σ w _ m (h.bnd fun o1 e1 v1 w1 m1 f1 k1 h1 => ?_)
  refine hb π e1 σ w1 _ m1 ((h1.from f1).bnd fun o2 e2 v2 w2 m2 f2 k2 h2 => ?_)
  have h3 := h2.from f2
  cases q1 : res e2 o1 with
  | none => rw [q1] at h3; exact h3.elim
  | some d1 =>
    cases q2 : res e2 o2 with
    | none => rw [q1, q2] at h3; exact h3.elim
    | some d2 =>
      rw [q1, q2] at h3
      simp only [Option.bind_some] at h3
      cases q3 : op d1 d2 with
      | none => rw [q3] at h3; exact h3.elim
      | some z =>
        rw [q3] at h3
        exact hr π e2 σ w2 v1 v2 d1 d2 z Q m2 (res_sound m2 (k1.step f2) q1) (res_sound m2 k2 q2) q3 fun v w' m' f' k' => h3 v w' m' f' (k'.base (f1.trans f2))
theorem ve_op {op : Operator} {g : PyData → PyData → Option B} (ho : OpV X ρ (binaryOp op) g) (ha : VE X ρ W a fa) (hb : VE X ρ W b fb) : VE X ρ W (.BinOp a op b pos) (fBin g fa fb) := by
  obtain ⟨r, h1, h2⟩ := ho
  obtain ⟨ta, pa, sa⟩ := ha
  obtain ⟨tb, pb, sb⟩ := hb
  exact ⟨_, pe_op h1 pa pb, se_bin h2 sa sb⟩
theorem ve_cmp {op : CmpOp} {g : PyData → PyData → Option B} (ho : OpV X ρ (compareOp op) g) (ha : VE X ρ W a fa) (hb : VE X ρ W b fb) (hm : behindInMarks op b = false := by first | exact nomark _ | rfl) : VE X ρ W (.Compare a [op] [b] pos) (fBin g fa fb) := by
  obtain ⟨r, h1, h2⟩ := ho
  obtain ⟨ta, pa, sa⟩ := ha
  obtain ⟨tb, pb, sb⟩ := hb
  exact ⟨_, pe_cmpR h1 pa pb hm, se_bin h2 sa sb⟩
def UnV (X : Cx) (ρ : Nat → Res) (F : Value → Sem Value) (op : PyData → Option B) : Prop := ∃ r, UnR X F r ∧
  ∀ π e σ w x dx z Q, Mt (cc X ρ) π e σ w → Rq X.K w.G w.H x dx → op dx = some z → (∀ v w', Mt (cc X ρ) π e σ w' → Frm w w' → OOk (cc X ρ) σ w w' (.b z) v → Q v w'.H) → r x w.H Q
theorem se_un {C : Cc} {r : V → Hp → VK → Prop} {op : PyData → Option B} {ta : TE} (hr : ∀ π e σ w x dx z Q, Mt C π e σ w → Rq C.K w.G w.H x dx → op dx = some z → (∀ v w', Mt C π e σ w' → Frm w w' → OOk C σ w w' (.b z) v → Q v w'.H) → r x w.H Q)
    (ha : SE C W ta fa) : SE C W (L2.tUn r ta) (fUn op fa) := fun π e σ w Q m h => by
  refine ha π e σ w _ m (h.bnd fun o1 e1 v1 w1 m1 f1 k1 h1 => ?_)
  have h3 := h1.from f1
  cases q1 : res e1 o1 with
  | none => rw [q1] at h3; exact h3.elim
  | some d1 =>
    rw [q1] at h3
    simp only [Option.bind_some] at h3
    cases q3 : op d1 with
    | none => rw [q3] at h3; exact h3.elim
    | some z =>
      rw [q3] at h3
      exact hr π e1 σ w1 v1 d1 z Q m1 (res_sound m1 k1 q1) q3 fun v w' m' f' k' => h3 v w' m' f' (k'.base f1)
theorem ve_un {op : UnaryOp} {g : PyData → Option B} (ho : UnV X ρ (unaryOp op) g) (ha : VE X ρ W a fa) : VE X ρ W (.UnaryOp op a pos) (fUn g fa) := by
  obtain ⟨r, h1, h2⟩ := ho
  obtain ⟨ta, pa, sa⟩ := ha
  exact ⟨_, pe_un h1 pa, se_un h2 sa⟩
/-- scalars -/
theorem sc_end {C : Cc} {π : List (Nat × V)} {e : Env} {σ : St} {w : WS} {d : PyData} {v : V} {Q : VK} (m : Mt C π e σ w) (k : ∀ v w', Mt C π e σ w' → Frm w w' → OOk C σ w w' (.b (.fr d)) v → Q v w'.H) (h : Rp C.K w.G v d) : Q v w.H :=
  k v w m (.refl w) (.fr h)
def opI (C : Int → Int → Bool) (g : Int → Int → Int) : PyData → PyData → Option B
  | .int i, .int j => if C i j = true then some (.fr (.int (g i j))) else none
  | _, _ => none
theorem opv_I {F : Value → Value → Sem Value} {P : Int → Int → Prop} {C : Int → Int → Bool} {g : Int → Int → Int} (hr : OpR X F (rI P fun i j => .int (g i j))) (hC : ∀ i j, C i j = true → P i j) : OpV X ρ F (opI C g) := by
  refine ⟨_, hr, fun π e σ w x y dx dy z Q m hx hy hz k => ?_⟩
  unfold opI at hz
  split at hz
  · rename_i i j
    split at hz
    · cases hz
      cases hx
      cases hy
      exact ⟨i, j, rfl, rfl, hC i j (by assumption), sc_end m k (.int _)⟩
    · cases hz
  · cases hz
def opI0 (g : Int → Int → Int) : PyData → PyData → Option B
  | .int i, .int j => some (.fr (.int (g i j)))
  | _, _ => none
theorem opv_I0 {F : Value → Value → Sem Value} {g : Int → Int → Int} (hr : OpR X F (rI0 fun i j => .int (g i j))) : OpV X ρ F (opI0 g) := by
  refine ⟨_, hr, fun π e σ w x y dx dy z Q m hx hy hz k => ?_⟩
  unfold opI0 at hz
  split at hz
  · rename_i i j
    cases hz
    cases hx
    cases hy
    exact ⟨i, j, rfl, rfl, sc_end m k (.int _)⟩
  · cases hz
def opB0 (g : Int → Int → Bool) : PyData → PyData → Option B
  | .int i, .int j => some (.fr (.bool (g i j)))
  | _, _ => none
theorem opv_B0 {F : Value → Value → Sem Value} {g : Int → Int → Bool} (hr : OpR X F (rI0 fun i j => .bl (g i j))) : OpV X ρ F (opB0 g) := by
  refine ⟨_, hr, fun π e σ w x y dx dy z Q m hx hy hz k => ?_⟩
  unfold opB0 at hz
  split at hz
  · rename_i i j
    cases hz
    cases hx
    cases hy
    exact ⟨i, j, rfl, rfl, sc_end m k (.bl _)⟩
  · cases hz
abbrev oLt := opB0 fun i j => decide (i < j)
abbrev oLe := opB0 fun i j => decide (i ≤ j)
abbrev oGt := opB0 fun i j => decide (j < i)
abbrev oGe := opB0 fun i j => decide (j ≤ i)
theorem v_lt : OpV X ρ (compareOp .Lt) oLt := opv_B0 op_lt
theorem v_le : OpV X ρ (compareOp .LtE) oLe := opv_B0 op_le
theorem v_gt : OpV X ρ (compareOp .Gt) oGt := opv_B0 op_gt
theorem v_ge : OpV X ρ (compareOp .GtE) oGe := opv_B0 op_ge
abbrev oSub := opI0 fun i j => i - j
theorem v_sub : OpV X ρ (binaryOp .Sub) oSub := opv_I0 op_sub
abbrev oMod := opI (fun _ j => decide (0 < j)) fun i j => i % j
theorem v_mod : OpV X ρ (binaryOp .Mod) oMod := opv_I op_mod fun _ _ h => of_decide_eq_true h
def cPow (i j : Int) : Bool := decide (0 ≤ j) && decide (j.natAbs ≤ 1000000) && decide (i.natAbs < 2 ^ 64)
theorem cPow_ok {i j : Int} (h : cPow i j = true) : 0 ≤ j ∧ j ≤ 1000000 ∧ i.natAbs < 2 ^ 64 := by
  unfold cPow at h
  rw [Bool.and_eq_true, Bool.and_eq_true, decide_eq_true_eq, decide_eq_true_eq, decide_eq_true_eq] at h
  exact ⟨h.1.1, by omega, h.2⟩
abbrev oPow := opI cPow fun i j => i ^ j.toNat
theorem v_pow : OpV X ρ (binaryOp .Pow) oPow := opv_I op_pow fun i j h => cPow_ok h
abbrev oShl := opI cPow fun i j => i * 2 ^ j.toNat
theorem v_shl : OpV X ρ (binaryOp .LShift) oShl := opv_I op_shl fun i j h => cPow_ok h
abbrev oShr := opI (fun _ j => decide (0 ≤ j)) fun i j => i / 2 ^ j.toNat
theorem v_shr : OpV X ρ (binaryOp .RShift) oShr := opv_I op_shr fun _ _ h => of_decide_eq_true h
abbrev oAnd := opI0 Builtin.bitAnd
theorem v_and : OpV X ρ (binaryOp .BitAnd) oAnd := opv_I0 op_and
abbrev oOr := opI0 Builtin.bitOr
theorem v_or : OpV X ρ (binaryOp .BitOr) oOr := opv_I0 op_or
def oNeg : PyData → Option B
  | .int i => some (.fr (.int (-i)))
  | _ => none
theorem v_neg : UnV X ρ (unaryOp .USub) oNeg := by
  refine ⟨_, un_neg, fun π e σ w x dx z Q m hx hz k => ?_⟩
  unfold oNeg at hz
  split at hz
  · rename_i i
    cases hz
    cases hx
    exact ⟨i, rfl, sc_end m k (.int _)⟩
  · cases hz
theorem vt_of (hs : ∀ whole, isTrue a X.env whole = (do let v ← whole; standAt a.pos; holding [v] (truthy v))) (ha : VE X ρ W a fa) : VT X ρ W a (fTest fa) := by
  obtain ⟨t, p, s⟩ := ha
  refine ⟨_, pt_val p hs, fun π e σ w Q m h => ?_⟩
  refine s π e σ w _ m (h.bnd fun o1 e1 v1 w1 m1 f1 k1 h1 => ?_)
  have h3 := h1.from f1
  cases q1 : res e1 o1 with
  | none => rw [q1] at h3; exact h3.elim
  | some d1 =>
    rw [q1] at h3
    cases d1 with
    | bool bb =>
      have r := res_sound m1 k1 q1
      cases r
      exact ⟨bb, rfl, h3 bb w1 m1 (.refl _) rfl⟩
    | none => exact h3.elim
    | int i => exact h3.elim
    | str i => exact h3.elim
    | list i => exact h3.elim
    | tuple i => exact h3.elim
    | dict i => exact h3.elim
theorem st_test {C : Cc} {t : TE} (s : SE C W t fa) : ST C W (tTest t) (fTest fa) := fun π e σ w Q m h => by
  refine s π e σ w _ m (h.bnd fun o1 e1 v1 w1 m1 f1 k1 h1 => ?_)
  have h3 := h1.from f1
  cases q1 : res e1 o1 with
  | none => rw [q1] at h3; exact h3.elim
  | some d1 =>
    rw [q1] at h3
    cases d1 with
    | bool bb =>
      have r := res_sound m1 k1 q1
      cases r
      exact ⟨bb, rfl, h3 bb w1 m1 (.refl _) rfl⟩
    | none => exact h3.elim
    | int i => exact h3.elim
    | str i => exact h3.elim
    | list i => exact h3.elim
    | tuple i => exact h3.elim
    | dict i => exact h3.elim
theorem vt_cmp {op : CmpOp} {g : PyData → PyData → Option B} (ho : OpV X ρ (compareOp op) g) (ha : VE X ρ W a fa) (hb : VE X ρ W b fb) (hm : behindInMarks op b = false := by first | exact nomark _ | rfl) : VT X ρ W (.Compare a [op] [b] pos) (fTest (fBin g fa fb)) := by
  obtain ⟨r, h1, h2⟩ := ho
  obtain ⟨ta, pa, sa⟩ := ha
  obtain ⟨tb, pb, sb⟩ := hb
  exact ⟨_, pt_cmpR h1 pa pb hm, st_test (se_bin h2 sa sb)⟩
theorem VW.vt (h : VW X ρ W a ta) : VT X ρ W a ta := by
  obtain ⟨t, p, s⟩ := h
  exact ⟨t, p.pt, s⟩
theorem vw_and1 (ha : VT X ρ W a ta) : VW X ρ W (.BoolOp .And [a] pos) ta := by
  obtain ⟨t, p, s⟩ := ha
  exact ⟨t, pw_and1 p, s⟩
theorem vw_or1 (ha : VT X ρ W a ta) : VW X ρ W (.BoolOp .Or [a] pos) ta := by
  obtain ⟨t, p, s⟩ := ha
  exact ⟨t, pw_or1 p, s⟩
theorem st_and {C : Cc} {t u : TT} (s1 : ST C W t ta) (s2 : ST C W u tb) : ST C W (L2.tAnd t u) (tAnd ta tb) := fun π e σ w Q m h => by
  refine s1 π e σ w _ m (h.bnd fun o1 e1 v1 w1 m1 f1 k1 h1 => ?_)
  subst k1
  have h3 := h1.from f1
  cases o1 with
  | true => rw [if_pos rfl]; exact s2 π e1 σ w1 _ m1 h3
  | false => rw [if_neg Bool.false_ne_true]; exact h3 false w1 m1 (.refl _) rfl
theorem st_or {C : Cc} {t u : TT} (s1 : ST C W t ta) (s2 : ST C W u tb) : ST C W (L2.tOr t u) (tOr ta tb) := fun π e σ w Q m h => by
  refine s1 π e σ w _ m (h.bnd fun o1 e1 v1 w1 m1 f1 k1 h1 => ?_)
  subst k1
  have h3 := h1.from f1
  cases o1 with
  | false => rw [if_neg Bool.false_ne_true]; exact s2 π e1 σ w1 _ m1 h3
  | true => rw [if_pos rfl]; exact h3 true w1 m1 (.refl _) rfl
theorem vw_and {rest : List Expr} (ha : VT X ρ W a ta) (hb : VW X ρ W (.BoolOp .And (b :: rest) pos) tb) : VW X ρ W (.BoolOp .And (a :: b :: rest) pos) (tAnd ta tb) := by
  obtain ⟨t, p, s⟩ := ha
  obtain ⟨t2, p2, s2⟩ := hb
  exact ⟨_, pw_and p p2, st_and s s2⟩
theorem vw_or {rest : List Expr} (ha : VT X ρ W a ta) (hb : VW X ρ W (.BoolOp .Or (b :: rest) pos) tb) : VW X ρ W (.BoolOp .Or (a :: b :: rest) pos) (tOr ta tb) := by
  obtain ⟨t, p, s⟩ := ha
  obtain ⟨t2, p2, s2⟩ := hb
  exact ⟨_, pw_or p p2, st_or s s2⟩
theorem vt_not (ha : VT X ρ W a ta) : VT X ρ W (.UnaryOp .Not a pos) (tNot ta) := by
  obtain ⟨t, p, s⟩ := ha
  refine ⟨_, pt_not p, fun π e σ w Q m h => ?_⟩
  refine s π e σ w _ m (h.bnd fun o1 e1 v1 w1 m1 f1 k1 h1 => ?_)
  subst k1
  exact h1.from f1 (!o1) w1 m1 (.refl _) rfl
end
end VL
set_option maxRecDepth 100000
namespace VL
open PySem L2
section
variable {X : Cx} {ρ : Nat → Res} {W : WX} {a b c : Expr} {es : List Expr} {pos : Pos} {fa fb fc : FE} {ta tb tc : FT} {fd : FD} {as_ : FA}
theorem big_le : big ≤ sizeLine := by decide
theorem le_big {n : Nat} (h : n ≤ big) : n ≤ sizeLine := Nat.le_trans h big_le
theorem vd_nil : VD X ρ W [] dNil := ⟨_, pa_nil, fun π e σ w Q m h => h [] w m (.refl w) .nil⟩
theorem vd_cons (ha : VE X ρ W a fa) (hr : VD X ρ W es fd) (hs : starEach (a :: es) X.env = (false, eval a X.env) :: starEach es X.env := by rfl) : VD X ρ W (a :: es) (dCons fa fd) := by
  obtain ⟨t, p, s⟩ := ha
  obtain ⟨t2, p2, s2⟩ := hr
  refine ⟨_, pa_cons p p2 hs, fun π e σ w Q m h => ?_⟩
  refine s π e σ w _ m (h.bnd fun o1 e1 v1 w1 m1 f1 k1 h1 => ?_)
  cases q1 : fz e1 o1 with
  | none => rw [q1] at h1; exact h1.elim
  | some pr =>
    rw [q1] at h1
    simp only [Option.bind_some] at h1
    obtain ⟨w2, m2, f2, eH, r2⟩ := fz_sound (e' := pr.2) m1 f1 k1 q1
    rw [← eH]
    refine s2 π pr.2 σ w2 _ m2 ((h1.from f2).bnd fun ds e3 vs w3 m3 f3 k3 h3 => ?_)
    exact h3 (v1 :: vs) w3 m3 f3 (.cons (r2.mono f3.g) k3)
theorem ve_lst (h : VD X ρ W es fd) : VE X ρ W (.List es pos) (fLst fd) := by
  obtain ⟨t, p, s⟩ := h
  refine ⟨_, pe_lst p, fun π e σ w Q m h => ?_⟩
  refine s π e σ w _ m (h.bnd fun ds e1 vs w1 m1 f1 k1 h1 => ?_)
  have h2 := h1.from f1
  have hl := k1.length
  split at h2
  · rename_i hz
    refine ⟨by rw [hl]; exact Nat.le_trans hz (by decide), fun p hp => ?_⟩
    obtain ⟨m2, f2, k2⟩ := mk_lst m1 hp k1
    exact h2 _ _ m2 f2 (k2.base f1)
  · exact h2.elim
theorem ve_one {op} (h : VE X ρ W a fa) : VE X ρ W (.BoolOp op [a] pos) fa := by
  obtain ⟨t, p, s⟩ := h
  exact ⟨t, pe_one p, s⟩
theorem ve_and {rest : List Expr} (ha : VE X ρ W a fa) (hb : VE X ρ W (.BoolOp .And (b :: rest) pos) fb) : VE X ρ W (.BoolOp .And (a :: b :: rest) pos) (fAndV fa fb) := by
  obtain ⟨t, p, s⟩ := ha
  obtain ⟨t2, p2, s2⟩ := hb
  refine ⟨_, pe_and p p2, fun π e σ w Q m h => ?_⟩
  refine s π e σ w _ m (h.bnd fun o1 e1 v1 w1 m1 f1 k1 h1 => ?_)
  cases q1 : res e1 o1 with
  | none => rw [q1] at h1; exact h1.elim
  | some d1 =>
    rw [q1] at h1
    have r := res_sound m1 k1 q1
    split at h1
    · rename_i z; cases z; cases r
      exact ⟨true, rfl, by rw [if_pos rfl]; exact s2 π e1 σ w1 _ m1 (Post.reb f1 h1)⟩
    · rename_i z; cases z; cases r
      exact ⟨false, rfl, by rw [if_neg Bool.false_ne_true]; exact h1 _ w1 m1 f1 (.fr (.bl _))⟩
    · exact h1.elim
theorem ve_not (ha : VE X ρ W a fa) : VE X ρ W (.UnaryOp .Not a pos) (fNotV fa) := by
  obtain ⟨t, p, s⟩ := ha
  refine ⟨_, pe_not p, fun π e σ w Q m h => ?_⟩
  refine s π e σ w _ m (h.bnd fun o1 e1 v1 w1 m1 f1 k1 h1 => ?_)
  cases q1 : res e1 o1 with
  | none => rw [q1] at h1; exact h1.elim
  | some d1 =>
    rw [q1] at h1
    have r := res_sound m1 k1 q1
    split at h1
    · rename_i bb z; cases z; cases r
      exact ⟨bb, rfl, h1 _ w1 m1 f1 (.fr (.bl _))⟩
    · exact h1.elim
theorem se_chain {op op' : CmpOp} {g g' : PyData → PyData → Option B} (ho : OpV X ρ (compareOp op) g) (ho' : OpV X ρ (compareOp op') g') (ha : VE X ρ W a fa) (hb : VE X ρ W b fb) (hc : VE X ρ W c fc) :
    ∃ r r' t1 t2 t3, OpR X (compareOp op) r ∧ OpR X (compareOp op') r' ∧ PE X a t1 ∧ PE X b t2 ∧ PE X c t3 ∧ SE (cc X ρ) W (tChain r r' t1 t2 t3) (fChain g g' fa fb fc) := by
  obtain ⟨r, h1, h2⟩ := ho
  obtain ⟨r', h1', h2'⟩ := ho'
  obtain ⟨t1, p1, s1⟩ := ha
  obtain ⟨t2, p2, s2⟩ := hb
  obtain ⟨t3, p3, s3⟩ := hc
  refine ⟨r, r', t1, t2, t3, h1, h1', p1, p2, p3, fun π e σ w Q m h => ?_⟩
  refine s1 π e σ w _ m (h.bnd fun o1 e1 v1 w1 m1 f1 k1 h1 => ?_)
  refine s2 π e1 σ w1 _ m1 ((h1.from f1).bnd fun o2 e2 v2 w2 m2 f2 k2 h2x => ?_)
  have h3 := h2x.from f2
  cases q1 : res e2 o1 with
  | none => rw [q1] at h3; exact h3.elim
  | some d1 =>
    cases q2 : res e2 o2 with
    | none => rw [q1, q2] at h3; exact h3.elim
    | some d2 =>
      rw [q1, q2] at h3
      simp only [Option.bind_some] at h3
      cases q3 : g d1 d2 with
      | none => rw [q3] at h3; exact h3.elim
      | some z =>
        rw [q3] at h3
        refine h2 π e2 σ w2 v1 v2 d1 d2 z _ m2 (res_sound m2 (k1.step f2) q1) (res_sound m2 k2 q2) q3 fun v w' m' f' k' => ?_
        split at h3
        · rename_i z2; cases z2
          obtain ⟨_, kk, _⟩ := k'
          cases kk.1
          refine ⟨true, rfl, ?_⟩
          rw [if_pos rfl]
          refine s3 π e2 σ w' _ m' ((h3.from f').bnd fun o3 e3 v3 w3 m3 f3 k3 h4 => ?_)
          have h5 := h4.from f3
          cases q5 : res e3 o2 with
          | none => rw [q5] at h5; exact h5.elim
          | some d5 =>
            cases q6 : res e3 o3 with
            | none => rw [q5, q6] at h5; exact h5.elim
            | some d6 =>
              rw [q5, q6] at h5
              simp only [Option.bind_some] at h5
              cases q7 : g' d5 d6 with
              | none => rw [q7] at h5; exact h5.elim
              | some z7 =>
                rw [q7] at h5
                exact h2' π e3 σ w3 v2 v3 d5 d6 z7 Q m3 (res_sound m3 ((k2.step f').step f3) q5) (res_sound m3 k3 q6) q7 fun v w5 m5 f5 k5 => h5 v w5 m5 f5 (k5.base (((f1.trans f2).trans f').trans f3))
        · rename_i z2; cases z2
          obtain ⟨_, kk, _⟩ := k'
          cases kk.1
          refine ⟨false, rfl, ?_⟩
          rw [if_neg Bool.false_ne_true]
          exact h3 _ w' m' f' (.fr (.bl _))
        · exact h3.elim
theorem vt_chain {op op' : CmpOp} {g g' : PyData → PyData → Option B} (ho : OpV X ρ (compareOp op) g) (ho' : OpV X ρ (compareOp op') g') (ha : VE X ρ W a fa) (hb : VE X ρ W b fb) (hc : VE X ρ W c fc) (hm : lastMarks [op, op'] [b, c] = false := by with_unfolding_all rfl) :
    VT X ρ W (.Compare a [op, op'] [b, c] pos) (fTest (fChain g g' fa fb fc)) := by
  obtain ⟨r, r', t1, t2, t3, h1, h1', p1, p2, p3, s⟩ := se_chain ho ho' ha hb hc
  exact ⟨_, pt_chain h1 h1' p1 p2 p3 hm, st_test s⟩
theorem v_add : OpV X ρ (binaryOp .Add) oAdd := by
  refine ⟨_, OpR.or op_add (OpR.or op_add_str (OpR.or op_cat op_catA)), fun π e σ w x y dx dy z Q m hx hy hz k => ?_⟩
  unfold oAdd at hz
  split at hz
  · cases hz; cases hx; cases hy
    exact .inl ⟨_, _, rfl, rfl, sc_end m k (.int _)⟩
  · split at hz
    · rename_i hb
      cases hz; cases hx; cases hy
      exact .inr (.inl ⟨_, _, rfl, rfl, le_big hb, sc_end m k (.str _)⟩)
    · cases hz
  · split at hz
    · rename_i hb
      cases hz
      obtain ⟨p, xs, rfl, hp, rp⟩ := hx
      obtain ⟨q, ys, rfl, hq, rq⟩ := hy
      have l1 := rp.length
      have l2 := rq.length
      refine .inr (.inr (.inl ⟨p, q, xs, ys, rfl, rfl, hp, hq, by rw [l1, l2]; exact le_big hb, fun r hr => ?_⟩))
      obtain ⟨m2, f2, k2⟩ := mk_lst m hr (rp.append rq)
      exact k _ _ m2 f2 k2
    · cases hz
  · split at hz
    · rename_i hb
      cases hz
      obtain ⟨p, xs, rfl, hp, rp⟩ := hx
      obtain ⟨q, ys, rfl, hq, rq⟩ := hy
      have l1 := rp.length
      have l2 := rq.length
      have e1 : w.H p = some (.tup xs) := m.sub _ _ hp
      have e2 : w.H q = some (.tup ys) := m.sub _ _ hq
      refine .inr (.inr (.inr ⟨p, q, xs, ys, rfl, rfl, .of e1, .of e2, by rw [l1, l2]; exact le_big hb, fun e => ?_, fun e e' => ?_, fun e e' r hr => ?_⟩))
      · subst e
        cases rp
        exact k _ w m (.refl w) (.fr (.tup hq rq))
      · subst e'
        cases rq
        rw [List.append_nil] at k
        exact k _ w m (.refl w) (.fr (.tup hp rp))
      · obtain ⟨w2, m2, f2, eH, k2⟩ := mk_tup m hr (rp.append rq)
        rw [← eH]
        exact k _ _ m2 f2 k2
    · cases hz
  · cases hz
theorem flat_rep {K : PySem.W.Frag} {G : Hp} {vs : List V} {ds : List PyData} (h : RpAll K G vs ds) : ∀ n : Nat, RpAll K G (List.replicate n vs).flatten (List.replicate n ds).flatten
  | 0 => .nil
  | n + 1 => by
    rw [List.replicate_succ, List.replicate_succ, List.flatten_cons, List.flatten_cons]
    exact h.append (flat_rep h n)
theorem cMul_ok {i j : Int} (h : cMul i j = true) : (-(2 ^ 64) < i ∧ i < 2 ^ 64) ∨ (-(2 ^ 64) < j ∧ j < 2 ^ 64) := by
  unfold cMul at h
  rw [Bool.or_eq_true, decide_eq_true_eq, decide_eq_true_eq] at h
  rcases h with h | h
  · exact .inl ⟨by omega, by omega⟩
  · exact .inr ⟨by omega, by omega⟩
theorem cFdiv_ok {i j : Int} (h : cFdiv i j = true) : 0 < j ∧ j < 2 ^ 200 := by
  unfold cFdiv at h
  rw [Bool.and_eq_true, decide_eq_true_eq, decide_eq_true_eq] at h
  exact ⟨h.1, by omega⟩
theorem v_mul : OpV X ρ (binaryOp .Mult) oMul := by
  refine ⟨_, OpR.or op_mul op_rep, fun π e σ w x y dx dy z Q m hx hy hz k => ?_⟩
  unfold oMul at hz
  split at hz
  · split at hz
    · rename_i i j hc
      cases hz; cases hx; cases hy
      exact .inl ⟨_, _, rfl, rfl, cMul_ok hc, sc_end m k (.int _)⟩
    · cases hz
  · split at hz
    · rename_i hb
      cases hz; cases hy
      obtain ⟨p, xs, rfl, hp, rp⟩ := hx
      have l1 := rp.length
      refine .inr ⟨p, _, xs, rfl, rfl, hp, by omega, by omega, by rw [l1]; exact le_big hb.2, fun r hr => ?_⟩
      obtain ⟨m2, f2, k2⟩ := mk_lst m hr (flat_rep rp _)
      exact k _ _ m2 f2 k2
    · cases hz
  · cases hz
theorem v_fdiv : OpV X ρ (binaryOp .FloorDiv) (opI cFdiv fun i j => i / j) := by
  refine opv_I (op_fdivW) fun i j h => ?_
  have h' : 0 < j ∧ j < 2 ^ 200 := cFdiv_ok h
  exact wide_div (b := 200) h'.1 (by omega) (by decide) (by decide)
theorem Rq.dp {K : PySem.W.Frag} {G H : Hp} {v : V} {d : PyData} (h : Rq K G H v d) (s : Same G H) (c : SeqAt.shaped d = true) : Dp K H v d := (h.rp s).dp d (SeqAt.canLay_of_shaped c)
/-- a list beside the empty list: its length tells -/
def rEN (f : Bool → Bool) : R2 := fun x y H Q => ∃ a b xs, x = V.ref a ∧ y = V.ref b ∧ H a = some (.lst xs) ∧ H b = some (.lst []) ∧ Q (.bl (f xs.isEmpty)) H
theorem op_eqN (hu : X.A.units < cLine) : OpR X (compareOp .Eq) (rEN id) := by
  intro pins s σ H x y v u Q I rx ry h
  obtain ⟨a, b, xs, rfl, rfl, ha, hb, q⟩ := h
  cases (show v = Value.ref a from rx)
  cases (show u = Value.ref b from ry)
  obtain ⟨us, r1, p1, _⟩ := I.list (.inl (.inl ha))
  obtain ⟨ws, r2, p2, _⟩ := I.list (.inl (.inl hb))
  have n1 := r1.length
  have n2 := r2.length
  cases xs with
  | nil =>
    cases us with
    | cons _ _ => cases n1
    | nil =>
      cases ws with
      | cons _ _ => cases n2
      | nil => exact SeqAt.RcAt.lists (e := fun _ => true) p1.isList p2.isList rfl hu (fun j h1 => absurd h1 (Nat.not_lt_zero _)) X.prog X.w _ _ ⟨.bl true, H, I, rfl, q⟩
  | cons x xs =>
    cases us with
    | nil => cases n1
    | cons u us =>
      cases ws with
      | cons _ _ => cases n2
      | nil => exact SeqAt.RcAt.lists_lengths p1.isList p2.isList (by simp) hu X.prog X.w _ _ ⟨.bl false, H, I, rfl, q⟩
def rES (f : Bool → Bool) : R2 := fun x y H Q => ∃ a b, x = V.str a ∧ y = V.str b ∧ Q (.bl (f (a == b))) H
theorem op_eqS : OpR X (compareOp .Eq) (rES id) := by
  intro pins s σ H x y v u Q I rx ry h
  obtain ⟨a, b, rfl, rfl, q⟩ := h
  obtain ⟨t, rfl⟩ := rx
  obtain ⟨t2, rfl⟩ := ry
  exact SeqAt.RcAt.str_str a t b t2 X.prog X.w _ _ ⟨.bl (a == b), H, I, rfl, q⟩
theorem isE_rq {K : PySem.W.Frag} {G H : Hp} {x y : V} {dx dy : PyData} {r : Bool} (h : isE dx dy = some r) (hx : Rq K G H x dx) (hy : Rq K G H y dy) : (∃ a b xs, x = V.ref a ∧ y = V.ref b ∧ H a = some (.lst xs) ∧ H b = some (.lst []) ∧ r = xs.isEmpty) ∨ ∃ a b, x = V.str a ∧ y = V.str b ∧ r = (a == b) := by
  unfold isE at h
  split at h
  · cases h
    obtain ⟨a, xs, rfl, ha, ra⟩ := hx
    obtain ⟨b, ys, rfl, hb, rb⟩ := hy
    cases rb
    refine .inl ⟨a, b, xs, rfl, rfl, ha, hb, ?_⟩
    cases ra <;> rfl
  · cases h
    cases hx
    cases hy
    exact .inr ⟨_, _, rfl, rfl, rfl⟩
  · cases h
theorem v_eq (hu : X.A.units + 64 < cLine) : OpV X ρ (compareOp .Eq) oEq := by
  refine ⟨_, OpR.or (op_eqD hu) (OpR.or (op_eqN (Nat.lt_of_le_of_lt (Nat.le_add_right _ _) hu)) op_eqS), fun π e σ w x y dx dy z Q m hx hy hz k => ?_⟩
  unfold oEq at hz
  split at hz
  · rename_i hc
    cases hz
    exact .inl ⟨dx, dy, hx.dp m.sub hc.1, hy.dp m.sub hc.2, hc.1, hc.2, sc_end m k (.bl _)⟩
  · cases hb : isE dx dy with
    | none => rw [hb] at hz; cases hz
    | some r =>
      rw [hb] at hz
      cases hz
      rcases isE_rq hb hx hy with ⟨a, b, xs, e1, e2, ha, hb2, rfl⟩ | ⟨a, b, e1, e2, rfl⟩
      · exact .inr (.inl ⟨a, b, xs, e1, e2, ha, hb2, sc_end m k (.bl _)⟩)
      · exact .inr (.inr ⟨a, b, e1, e2, sc_end m k (.bl _)⟩)
theorem rp_at {K : PySem.W.Frag} {G : Hp} {xs : List V} {ds : List PyData} {i : Int} {d : PyData} (r : RpAll K G xs ds) (h : atI ds i = some d) : ∃ v, atI xs i = some v ∧ Rp K G v d := by
  unfold atI at h ⊢
  rw [r.length]
  cases q : ixN ds.length i with
  | none => rw [q] at h; cases h
  | some j =>
    rw [q] at h
    exact r.get h
theorem ve_ix (ha : VE X ρ W a fa) (hb : VE X ρ W b fb) (hs : PlainIx b := by exact fun _ _ => rfl) : VE X ρ W (.Subscript a b pos) (fBin oIx fa fb) := by
  obtain ⟨t, p, s⟩ := ha
  obtain ⟨t2, p2, s2⟩ := hb
  refine ⟨_, pe_ix ix_seq p p2 hs, se_bin (fun π e σ w x y dx dy z Q m hx hy hz k => ?_) s s2⟩
  unfold oIx at hz
  split at hz
  · cases hy
    obtain ⟨q, xs, rfl, hq, rq⟩ := hx
    rename_i ds i
    cases hd : atI ds i with
    | none => rw [hd] at hz; cases hz
    | some d =>
      rw [hd] at hz
      cases hz
      obtain ⟨v, h1, h2⟩ := rp_at rq hd
      exact .inl ⟨q, xs, i, v, rfl, rfl, .of hq, h1, sc_end m k h2⟩
  · cases hy
    obtain ⟨q, xs, rfl, hq, rq⟩ := hx
    rename_i ds i
    cases hd : atI ds i with
    | none => rw [hd] at hz; cases hz
    | some d =>
      rw [hd] at hz
      cases hz
      obtain ⟨v, h1, h2⟩ := rp_at rq hd
      exact .inr (.inl ⟨q, xs, i, v, rfl, rfl, .of (m.sub _ _ hq), h1, sc_end m k h2⟩)
  · split at hz
    · rename_i zz i hb
      cases hx; cases hy
      cases hd : atI zz.cps.toList i with
      | none => rw [hd] at hz; cases hz
      | some d =>
        rw [hd] at hz
        cases hz
        exact .inr (.inr ⟨zz, i, d, rfl, rfl, le_big hb, hd, sc_end m k (.str _)⟩)
    · cases hz
  · cases hz
def VO (X : Cx) (ρ : Nat → Res) (W : WX) (e : Option Expr) (f : FO) : Prop := ∃ t, PO X e t ∧ ∀ π env σ w Q, Mt (cc X ρ) π env σ w → Post (cc X ρ) W π σ w (f env) (fun _ b b' => b = b') Q → t σ w.H Q
theorem vo_no : VO X ρ W none oNo := ⟨_, po_none, fun π e σ w Q m h => h none w m (.refl w) rfl⟩
theorem vo_some (ha : VE X ρ W a fa) : VO X ρ W (some a) (oSome fa) := by
  obtain ⟨t, p, s⟩ := ha
  refine ⟨_, po_some p, fun π e σ w Q m h => ?_⟩
  refine s π e σ w _ m (h.bnd fun o1 e1 v1 w1 m1 f1 k1 h1 => ?_)
  cases q1 : res e1 o1 with
  | none => rw [q1] at h1; exact h1.elim
  | some d1 =>
    rw [q1] at h1
    have r := res_sound m1 k1 q1
    split at h1
    · rename_i bb z; cases z; cases r
      exact ⟨_, rfl, h1 _ w1 m1 f1 rfl⟩
    · exact h1.elim
theorem ve_sl {lo hi : Option Expr} {fl fh : FO} {p2 : Pos} (ha : VE X ρ W a fa) (hl : VO X ρ W lo fl) (hh : VO X ρ W hi fh) : VE X ρ W (.Subscript a (.Slice lo hi none p2) pos) (fSl fa fl fh) := by
  obtain ⟨t, p, s⟩ := ha
  obtain ⟨t1, p1, s1⟩ := hl
  obtain ⟨t2, p2', s2⟩ := hh
  refine ⟨_, pe_slice (SlR.or sl_list sl_str) p p1 p2', fun π e σ w Q m h => ?_⟩
  refine s π e σ w _ m (h.bnd fun o1 e1 v1 w1 m1 f1 k1 h1 => ?_)
  refine s1 π e1 σ w1 _ m1 ((h1.from f1).bnd fun l e2 l' w2 m2 f2 k2 h2 => ?_)
  subst k2
  refine s2 π e2 σ w2 _ m2 ((h2.from f2).bnd fun u e3 u' w3 m3 f3 k3 h3 => ?_)
  subst k3
  have h4 := h3.from f3
  cases q1 : res e3 o1 with
  | none => rw [q1] at h4; exact h4.elim
  | some d1 =>
    rw [q1] at h4
    simp only [Option.bind_some] at h4
    have r := res_sound m3 ((k1.step f2).step f3) q1
    cases q2 : oSl d1 l u with
    | none => rw [q2] at h4; exact h4.elim
    | some z =>
      rw [q2] at h4
      cases d1 with
      | list ds =>
        cases q2
        obtain ⟨q, xs, rfl, hq, rq⟩ := r
        refine .inl ⟨q, xs, rfl, .of hq, fun p hp => ?_⟩
        have rz : RpAll X.K w3.G (cutV xs l u) (cutD ds l u) := by
          unfold cutV cutD
          rw [rq.length]
          exact (rq.drop _).take _
        obtain ⟨m5, f5, k5⟩ := mk_lst m3 hp rz
        exact h4 _ _ m5 f5 (k5.base ((f1.trans f2).trans f3))
      | str zz =>
        have q2' : (if zz.length ≤ big then some (B.fr (.str (cutS zz l u))) else none) = some z := q2
        split at q2'
        · rename_i hb
          cases q2'; cases r
          exact .inr ⟨_, rfl, le_big hb, h4 _ w3 m3 (.refl _) (.fr (.str _))⟩
        · cases q2'
      | none => cases q2
      | bool i => cases q2
      | int i => cases q2
      | tuple i => cases q2
      | dict i => cases q2
end
end VL
set_option maxRecDepth 100000
namespace VL
open PySem L2
section
variable {X : Cx} {ρ : Nat → Res} {W : WX} {a b c : Expr} {es : List Expr} {pos p : Pos} {fa fb fc : FE} {ta tb tc : FT} {fd : FD} {as_ : FA}
theorem va_nil : VA X ρ W [] aNil := ⟨_, pa_nil, fun π e σ w Q m h => h [] w m (.refl w) .nil⟩
theorem paired_base {C : Cc} {σ : St} {w w1 w' : WS} (f : Frm w w1) : ∀ {os : List O} {vs : List V}, Paired (OOk C σ w1 w') os vs → Paired (OOk C σ w w') os vs
  | _, _, .nil => .nil
  | _, _, .cons h t => .cons (h.base f) (paired_base f t)
theorem va_cons (ha : VE X ρ W a fa) (hr : VA X ρ W es as_) (hs : starEach (a :: es) X.env = (false, eval a X.env) :: starEach es X.env := by rfl) : VA X ρ W (a :: es) (aCons fa as_) := by
  obtain ⟨t, p, s⟩ := ha
  obtain ⟨t2, p2, s2⟩ := hr
  refine ⟨_, pa_cons p p2 hs, fun π e σ w Q m h => ?_⟩
  refine s π e σ w _ m (h.bnd fun o1 e1 v1 w1 m1 f1 k1 h1 => ?_)
  refine s2 π e1 σ w1 _ m1 ((h1.from f1).bnd fun os e3 vs w3 m3 f3 k3 h3 => ?_)
  exact h3.from f3 (v1 :: vs) w3 m3 (.refl _) (.cons (k1.step f3) (paired_base f1 k3))
/-- all read -/
inductive RqAll (K : PySem.W.Frag) (G H : Hp) : List V → List PyData → Prop
  | nil : RqAll K G H [] []
  | cons {v vs d ds} : Rq K G H v d → RqAll K G H vs ds → RqAll K G H (v :: vs) (d :: ds)
theorem resAll_sound {C : Cc} {π : List (Nat × V)} {e : Env} {σ : St} {w0 w : WS} (m : Mt C π e σ w) : ∀ {os : List O} {vs : List V} {ds : List PyData}, Paired (OOk C σ w0 w) os vs → resAll e os = some ds → RqAll C.K w.G w.H vs ds
  | _, _, ds, .nil, h => by cases h; exact .nil
  | o :: os, v :: vs, ds, .cons h t, hr => by
    unfold resAll at hr
    cases q : res e o with
    | none => rw [q] at hr; cases hr
    | some d =>
      rw [q] at hr
      cases q2 : resAll e os with
      | none => rw [q2] at hr; cases hr
      | some es =>
        rw [q2] at hr
        cases hr
        exact .cons (res_sound m h q) (resAll_sound m t q2)
def CallV (X : Cx) (ρ : Nat → Res) (v : Value) (g : List PyData → Option B) : Prop := ∃ r, CallR X v r ∧
  ∀ π e σ w xs ds z Q, Mt (cc X ρ) π e σ w → RqAll X.K w.G w.H xs ds → g ds = some z → (∀ v w', Mt (cc X ρ) π e σ w' → Frm w w' → OOk (cc X ρ) σ w w' (.b z) v → Q v w'.H) → r xs w.H Q
theorem se_cb {C : Cc} {r : List V → Hp → VK → Prop} {g : List PyData → Option B} {ta : TA} (hr : ∀ π e σ w xs ds z Q, Mt C π e σ w → RqAll C.K w.G w.H xs ds → g ds = some z → (∀ v w', Mt C π e σ w' → Frm w w' → OOk C σ w w' (.b z) v → Q v w'.H) → r xs w.H Q)
    (ha : SA C W ta as_) : SE C W (tCB r ta) (fCB g as_) := fun π e σ w Q m h => by
  refine ha π e σ w _ m (h.bnd fun os e1 vs w1 m1 f1 k1 h1 => ?_)
  have h3 := h1.from f1
  cases q1 : resAll e1 os with
  | none => rw [q1] at h3; exact h3.elim
  | some d1 =>
    rw [q1] at h3
    simp only [Option.bind_some] at h3
    cases q3 : g d1 with
    | none => rw [q3] at h3; exact h3.elim
    | some z =>
      rw [q3] at h3
      exact hr π e1 σ w1 vs d1 z Q m1 (resAll_sound m1 k1 q1) q3 fun v w' m' f' k' => h3 v w' m' f' (k'.base f1)
theorem ve_cb {id : String} {x : Str} {g : List PyData → Option B} (hc : CallV X ρ (.builtin id) g) (hm : X.mg x = none) (hv : bootBuiltins x = some (.builtin id)) (ha : VA X ρ W (a :: es) as_) (hg : Gl X x := by rfl) (hn : x ≠ "__name__" := by decide) (hdb : (x == ("__debug__" : Str)) = false := by decide)
    (he : starEach (a :: es) X.env = (false, eval a X.env) :: starEach es X.env := by rfl) (hpl : (backTo pos (starEach es X.env)).any (·.1) = false := by rfl) : VE X ρ W (.Call (.Name x p) (a :: es) [] pos) (fCB g as_) := by
  obtain ⟨r, h1, h2⟩ := hc
  obtain ⟨t, pa, s⟩ := ha
  exact ⟨_, pe_callB h1 hg hm hv pa hn hdb he hpl, se_cb h2 s⟩
theorem ve_ct {T : String} {x : Str} {g : List PyData → Option B} (hc : CallV X ρ (.type T) g) (hm : X.mg x = none) (hv : bootBuiltins x = some (.type T)) (ha : VA X ρ W (a :: es) as_) (hg : Gl X x := by rfl) (hn : x ≠ "__name__" := by decide) (hdb : (x == ("__debug__" : Str)) = false := by decide)
    (he : starEach (a :: es) X.env = (false, eval a X.env) :: starEach es X.env := by rfl) (hpl : (backTo pos (starEach es X.env)).any (·.1) = false := by rfl) : VE X ρ W (.Call (.Name x p) (a :: es) [] pos) (fCB g as_) := by
  obtain ⟨r, h1, h2⟩ := hc
  obtain ⟨t, pa, s⟩ := ha
  exact ⟨_, pe_callTy h1 hg hm hv pa hn hdb he hpl, se_cb h2 s⟩
theorem ints_of {K : PySem.W.Frag} {G : Hp} : ∀ {ds : List PyData} {ns : List Int} {xs : List V}, asInts ds = some ns → RpAll K G xs ds → xs = ns.map V.int ∧ ds = ns.map .int
  | [], ns, xs, h, r => by cases h; cases r; exact ⟨rfl, rfl⟩
  | .int i :: ds, ns, xs, h, r => by
    unfold asInts at h
    cases q : asInts ds with
    | none => rw [q] at h; cases h
    | some ms =>
      rw [q] at h
      cases h
      cases r with
      | cons r1 r2 =>
        cases r1
        obtain ⟨e1, e2⟩ := ints_of q r2
        exact ⟨by rw [e1]; rfl, by rw [e2]; rfl⟩
  | .none :: ds, ns, xs, h, r => by cases h
  | .bool _ :: ds, ns, xs, h, r => by cases h
  | .str _ :: ds, ns, xs, h, r => by cases h
  | .list _ :: ds, ns, xs, h, r => by cases h
  | .tuple _ :: ds, ns, xs, h, r => by cases h
  | .dict _ :: ds, ns, xs, h, r => by cases h
theorem rp_ints {K : PySem.W.Frag} {G : Hp} : ∀ ns : List Int, RpAll K G (ns.map V.int) (ns.map .int)
  | [] => .nil
  | n :: ns => .cons (.int n) (rp_ints ns)
theorem fold_max_mem (x : Int) : ∀ xs : List Int, xs.foldl max x ∈ x :: xs ∧ ∀ y ∈ x :: xs, y ≤ xs.foldl max x := by
  intro xs
  induction xs generalizing x with
  | nil => exact ⟨by simp, fun y h => by simp at h; subst h; exact Int.le_refl _⟩
  | cons z xs ih =>
    obtain ⟨h1, h2⟩ := ih (max x z)
    show xs.foldl max (max x z) ∈ _ ∧ _
    refine ⟨?_, fun y hy => ?_⟩
    · rcases List.mem_cons.mp h1 with e | e
      · rw [e]
        by_cases hz : z ≤ x
        · rw [Int.max_eq_left hz]; simp
        · rw [Int.max_eq_right (by omega)]; simp
      · exact List.mem_cons_of_mem _ (List.mem_cons_of_mem _ e)
    · have hm := h2 (max x z) (by simp)
      rcases List.mem_cons.mp hy with e | hy
      · subst e; exact Int.le_trans (Int.le_max_left _ _) hm
      · rcases List.mem_cons.mp hy with e | hy
        · subst e; exact Int.le_trans (Int.le_max_right _ _) hm
        · exact h2 y (List.mem_cons_of_mem _ hy)
theorem fold_min_mem (x : Int) : ∀ xs : List Int, xs.foldl min x ∈ x :: xs ∧ ∀ y ∈ x :: xs, xs.foldl min x ≤ y := by
  intro xs
  induction xs generalizing x with
  | nil => exact ⟨by simp, fun y h => by simp at h; subst h; exact Int.le_refl _⟩
  | cons z xs ih =>
    obtain ⟨h1, h2⟩ := ih (min x z)
    show xs.foldl min (min x z) ∈ _ ∧ _
    refine ⟨?_, fun y hy => ?_⟩
    · rcases List.mem_cons.mp h1 with e | e
      · rw [e]
        by_cases hz : x ≤ z
        · rw [Int.min_eq_left hz]; simp
        · rw [Int.min_eq_right (by omega)]; simp
      · exact List.mem_cons_of_mem _ (List.mem_cons_of_mem _ e)
    · have hm := h2 (min x z) (by simp)
      rcases List.mem_cons.mp hy with e | hy
      · subst e; exact Int.le_trans hm (Int.min_le_left _ _)
      · rcases List.mem_cons.mp hy with e | hy
        · subst e; exact Int.le_trans hm (Int.min_le_right _ _)
        · exact h2 y (List.mem_cons_of_mem _ hy)
theorem maxI_uniq {ns : List Int} {m : Int} (hne : ns ≠ []) (h1 : m ∈ ns) (h2 : ∀ y, y ∈ ns → y ≤ m) : m = maxI ns := by
  cases ns with
  | nil => exact absurd rfl hne
  | cons x xs =>
    obtain ⟨k1, k2⟩ := fold_max_mem x xs
    exact Int.le_antisymm (k2 m h1) (h2 _ k1)
theorem minI_uniq {ns : List Int} {m : Int} (hne : ns ≠ []) (h1 : m ∈ ns) (h2 : ∀ y, y ∈ ns → m ≤ y) : m = minI ns := by
  cases ns with
  | nil => exact absurd rfl hne
  | cons x xs =>
    obtain ⟨k1, k2⟩ := fold_min_mem x xs
    exact Int.le_antisymm (h2 _ k1) (k2 m h1)
theorem v_len : CallV X ρ (.builtin "len") gLen := by
  refine ⟨_, CallR.or call_len_seq (CallR.or call_len_str call_lenD), fun π e σ w xs ds z Q m hx hz k => ?_⟩
  unfold gLen at hz
  split at hz
  · cases hz
    cases hx with
    | cons r t =>
      cases t
      obtain ⟨q, ys, rfl, hq, rq⟩ := r
      refine .inl ⟨q, ys, rfl, .inl (.of hq), ?_⟩
      rw [rq.length]
      exact sc_end m k (.int _)
  · cases hz
    cases hx with
    | cons r t =>
      cases t
      obtain ⟨q, ys, rfl, hq, rq⟩ := r
      refine .inl ⟨q, ys, rfl, .inr (.of (m.sub _ _ hq)), ?_⟩
      rw [rq.length]
      exact sc_end m k (.int _)
  · split at hz
    · rename_i hb
      cases hz
      cases hx with
      | cons r t =>
        cases t
        cases r
        exact .inr (.inl ⟨_, rfl, le_big hb, sc_end m k (.int _)⟩)
    · cases hz
  · cases hz
    cases hx with
    | cons r t =>
      cases t
      obtain ⟨q, ys, rfl, hq, e1, rq⟩ := r
      refine .inr (.inr ⟨q, ys, rfl, hq, ?_⟩)
      have e2 := congrArg List.length e1
      rw [List.length_map, List.length_map] at e2
      rw [e2]
      exact sc_end m k (.int _)
  · cases hz
theorem v_abs : CallV X ρ (.builtin "abs") gAbs := by
  refine ⟨_, call_abs, fun π e σ w xs ds z Q m hx hz k => ?_⟩
  unfold gAbs at hz
  split at hz
  · cases hz
    cases hx with
    | cons r t =>
      cases t
      cases r
      exact ⟨_, rfl, sc_end m k (.int _)⟩
  · cases hz
theorem v_max (hc : X.calm = true) : CallV X ρ (.builtin "max") gMax := by
  refine ⟨_, CallR.or (call_max2 hc) (cr_max hc), fun π e σ w xs ds z Q m hx hz k => ?_⟩
  unfold gMax at hz
  split at hz
  · cases hz
    cases hx with
    | cons r t =>
      cases t with
      | cons r2 t =>
        cases t
        cases r
        cases r2
        exact .inl ⟨_, _, rfl, sc_end m k (.int _)⟩
  · rename_i d ds
    cases q : asInts (d :: ds) with
    | none => rw [q] at hz; cases hz
    | some ns =>
      rw [q] at hz
      cases hz
      cases hx with
      | cons r t =>
        cases t
        obtain ⟨p, ys, rfl, hp, rp⟩ := r
        obtain ⟨e1, e2⟩ := ints_of q rp
        subst e1
        have hne : ns ≠ [] := by
          rintro rfl
          cases e2
        refine .inr ⟨p, ns, rfl, .of hp, List.length_pos_iff.mpr hne, fun mm h1 h2 => ?_⟩
        rw [maxI_uniq hne h1 h2]
        exact sc_end m k (.int _)
  · cases hz
theorem v_min (hc : X.calm = true) : CallV X ρ (.builtin "min") gMin := by
  refine ⟨_, CallR.or (call_min2 hc) (cr_min hc), fun π e σ w xs ds z Q m hx hz k => ?_⟩
  unfold gMin at hz
  split at hz
  · cases hz
    cases hx with
    | cons r t =>
      cases t with
      | cons r2 t =>
        cases t
        cases r
        cases r2
        exact .inl ⟨_, _, rfl, sc_end m k (.int _)⟩
  · rename_i d ds
    cases q : asInts (d :: ds) with
    | none => rw [q] at hz; cases hz
    | some ns =>
      rw [q] at hz
      cases hz
      cases hx with
      | cons r t =>
        cases t
        obtain ⟨p, ys, rfl, hp, rp⟩ := r
        obtain ⟨e1, e2⟩ := ints_of q rp
        subst e1
        have hne : ns ≠ [] := by
          rintro rfl
          cases e2
        refine .inr ⟨p, ns, rfl, .of hp, List.length_pos_iff.mpr hne, fun mm h1 h2 => ?_⟩
        rw [minI_uniq hne h1 h2]
        exact sc_end m k (.int _)
  · cases hz
theorem v_sum (hc : X.calm = true) : CallV X ρ (.builtin "sum") gSum := by
  refine ⟨_, cr_sum hc, fun π e σ w xs ds z Q m hx hz k => ?_⟩
  unfold gSum at hz
  split at hz
  · rename_i ds
    cases q : asInts ds with
    | none => rw [q] at hz; cases hz
    | some ns =>
      rw [q] at hz
      cases hz
      cases hx with
      | cons r t =>
        cases t
        obtain ⟨p, ys, rfl, hp, rp⟩ := r
        obtain ⟨e1, e2⟩ := ints_of q rp
        subst e1
        exact ⟨p, ns, rfl, .of hp, sc_end m k (.int _)⟩
  · cases hz
theorem v_int : CallV X ρ (.type "int") gInt := by
  refine ⟨_, call_int1, fun π e σ w xs ds z Q m hx hz k => ?_⟩
  unfold gInt at hz
  split at hz
  · cases hz
    cases hx with
    | cons r t =>
      cases t
      cases r
      exact .inl ⟨_, rfl, sc_end m k (.int _)⟩
  · cases hz
    cases hx with
    | cons r t =>
      cases t
      cases r
      exact .inr ⟨_, rfl, sc_end m k (.int _)⟩
  · cases hz
theorem v_tuple : CallV X ρ (.type "tuple") gTuple := by
  refine ⟨_, call_tuple_of, fun π e σ w xs ds z Q m hx hz k => ?_⟩
  unfold gTuple at hz
  split at hz
  · cases hz
    cases hx with
    | cons r t =>
      cases t
      obtain ⟨q, ys, rfl, hq, rq⟩ := r
      refine ⟨q, ys, rfl, .inl ⟨.of hq, fun p hp => ?_⟩⟩
      obtain ⟨w5, m5, f5, eH, k5⟩ := mk_tup m hp rq
      rw [← eH]
      exact k _ _ m5 f5 k5
  · cases hz
    cases hx with
    | cons r t =>
      cases t
      obtain ⟨q, ys, rfl, hq, rq⟩ := r
      exact ⟨q, ys, rfl, .inr ⟨.of (m.sub _ _ hq), sc_end m k (.tup hq rq)⟩⟩
  · cases hz
end
end VL
set_option maxRecDepth 100000
namespace VL
open PySem L2
section
variable {C : Cc} {π : List (Nat × V)} {e : Env} {σ : St} {w : WS}
theorem at_forget : ∀ {vs : List Nat} {e : Env} {i : Nat} {b : B}, at? (forget vs e) i = some b → at? e i = some b ∧ i ∉ vs
  | [], e, i, b, h => ⟨h, by simp⟩
  | v :: vs, e, i, b, h => by
    obtain ⟨h1, h2⟩ := at_forget (vs := vs) (e := e.set v none) h
    by_cases z : v = i
    · subst z
      unfold at? at h1
      by_cases hv : v < e.length
      · rw [List.getElem?_set_self hv] at h1; cases h1
      · rw [List.getElem?_eq_none (by simpa using hv)] at h1; cases h1
    · rw [at_set_ne z] at h1
      exact ⟨h1, by simp only [List.mem_cons, not_or]; exact ⟨fun q => z q.symm, h2⟩⟩
theorem forget_length : ∀ (vs : List Nat) (e : Env), (forget vs e).length = e.length
  | [], e => rfl
  | v :: vs, e => by
    show (forget vs (e.set v none)).length = e.length
    rw [forget_length vs, List.length_set]
/-- fewer names -/
theorem Mt.less {e' : Env} (m : Mt C π e σ w) (hl : e'.length = e.length) (h : ∀ i b, at? e' i = some b → at? e i = some b) : ∃ w', Mt C π e' σ w' ∧ Frm w w' ∧ w'.H = w.H ∧ w'.G = w.G ∧ ∀ i a, w'.fp i a → w.fp i a := by
  refine ⟨{ w with fp := fun i a => (at? e' i).isSome = true ∧ w.fp i a }, ⟨hl.trans m.len, m.sub, fun i b q => ?_, fun i q a z => ?_, fun i j a x y => m.dis i j a x.2 y.2, m.pin⟩, ⟨Same.refl _, fun a o h1 n => ⟨h1, rfl, fun i z => n i z.2⟩, fun _ h => h⟩, rfl, rfl, fun i a z => z.2⟩
  · obtain ⟨v, h1, h2⟩ := m.bok i b (h i b q)
    refine ⟨v, h1, ?_⟩
    have e1 : (fun a => (at? e' i).isSome = true ∧ w.fp i a) = w.fp i := by
      funext a
      exact propext ⟨fun z => z.2, fun z => ⟨by rw [q]; rfl, z⟩⟩
    show BOk C w.G w.H b v (fun a => (at? e' i).isSome = true ∧ w.fp i a)
    rw [e1]
    exact h2
  · have z1 : (at? e' i).isSome = true := z.1
    rw [q] at z1
    cases z1
theorem Mt.forget {vs : List Nat} (m : Mt C π e σ w) : ∃ w', Mt C π (forget vs e) σ w' ∧ Frm w w' ∧ w'.H = w.H ∧ w'.G = w.G ∧ ∀ i a, w'.fp i a → w.fp i a :=
  m.less (forget_length vs e) fun _ _ h => (at_forget h).1
/-- a name bound -/
theorem Mt.bind {w0 : WS} {i : Nat} {b : B} {v : V} {fp : Addr → Prop} (m : Mt C π e σ w) (f : Frm w0 w) (hp : ∀ p ∈ π, p.1 ≠ i) (hb : BOk C w.G w.H b v fp) (hf : ∀ a, fp a → (w0.H a = none ∨ ∃ i, w0.fp i a) ∧ ∀ j, ¬ w.fp j a) :
    ∃ w', Mt C π (e.set i (some b)) (σ.set i (some v)) w' ∧ Frm w0 w' ∧ w'.H = w.H ∧ w'.G = w.G := by
  by_cases hi : i < e.length
  case neg =>
    rw [List.set_eq_of_length_le (by omega), List.set_eq_of_length_le (by rw [← m.len]; omega)]
    exact ⟨w, m, f, rfl, rfl⟩
  have hi' : i < σ.length := by rw [← m.len]; exact hi
  refine ⟨{ w with fp := fun j a => if j = i then fp a else w.fp j a }, ⟨by rw [List.length_set, List.length_set]; exact m.len, m.sub, fun j c q => ?_, fun j q a z => ?_, fun j k a x y => ?_, fun p h => ?_⟩, ⟨f.g, fun a o h n => ?_, f.t⟩, rfl, rfl⟩
  · by_cases hj : i = j
    · subst hj
      rw [at_set_lt hi] at q
      cases q
      refine ⟨v, List.getElem?_set_self hi', ?_⟩
      have e1 : (fun a => if i = i then fp a else w.fp i a) = fp := by funext a; rw [if_pos rfl]
      show BOk C w.G w.H b v (fun a => if i = i then fp a else w.fp i a)
      rw [e1]
      exact hb
    · rw [at_set_ne hj] at q
      obtain ⟨u, h1, h2⟩ := m.bok j c q
      refine ⟨u, by rw [List.getElem?_set_ne hj]; exact h1, ?_⟩
      have e1 : (fun a => if j = i then fp a else w.fp j a) = w.fp j := by funext a; rw [if_neg (Ne.symm hj)]
      show BOk C w.G w.H c u (fun a => if j = i then fp a else w.fp j a)
      rw [e1]
      exact h2
  · by_cases hj : i = j
    · subst hj
      rw [at_set_lt hi] at q
      cases q
    · rw [at_set_ne hj] at q
      have z' : if j = i then fp a else w.fp j a := z
      rw [if_neg (Ne.symm hj)] at z'
      exact m.non j q a z'
  · have x' : if j = i then fp a else w.fp j a := x
    have y' : if k = i then fp a else w.fp k a := y
    by_cases hj : j = i
    · by_cases hk : k = i
      · rw [hj, hk]
      · rw [if_pos hj] at x'
        rw [if_neg hk] at y'
        exact absurd y' ((hf a x').2 k)
    · by_cases hk : k = i
      · rw [if_neg hj] at x'
        rw [if_pos hk] at y'
        exact absurd x' ((hf a y').2 j)
      · rw [if_neg hj] at x'
        rw [if_neg hk] at y'
        exact m.dis j k a x' y'
  · rw [List.getElem?_set_ne (fun z => hp p h z.symm)]
    exact m.pin p h
  · obtain ⟨h1, h2, h3⟩ := f.k a o h n
    refine ⟨h1, h2, fun j z => ?_⟩
    have z' : if j = i then fp a else w.fp j a := z
    by_cases hj : j = i
    · rw [if_pos hj] at z'
      rcases (hf a z').1 with q | ⟨k, q⟩
      · rw [h] at q; cases q
      · exact n k q
    · rw [if_neg hj] at z'
      exact h3 j z'
/-- a name's slot set where the old value was owned: its things are let go -/
theorem Mt.drop {i : Nat} (m : Mt C π e σ w) : ∃ w', Mt C π (e.set i none) σ w' ∧ Frm w w' ∧ w'.H = w.H ∧ w'.G = w.G ∧ ∀ j a, w'.fp j a → w.fp j a := by
  refine m.less (List.length_set) fun j b h => ?_
  by_cases hj : i = j
  · subst hj
    by_cases hi : i < e.length
    · rw [at_set_lt hi] at h; cases h
    · unfold at? at h
      rw [List.getElem?_eq_none (by simpa using hi)] at h; cases h
  · rw [at_set_ne hj] at h; exact h
end
section
variable {X : Cx} {ρ : Nat → Res} {W : WX} {pn : List Nat} {st : Stmt} {rest : List Stmt} {a b c : Expr} {es : List Expr} {pos p : Pos} {fa fb fc : FE} {ta tb tc : FT} {fd : FD} {as_ : FA} {f g : FS}
def VS (X : Cx) (ρ : Nat → Res) (W : WX) (pn : List Nat) (st : Stmt) (f : FS) : Prop := ∃ t, PS X st t ∧ SS (cc X ρ) W pn t f
def VSs (X : Cx) (ρ : Nat → Res) (W : WX) (pn : List Nat) (st : List Stmt) (f : FS) : Prop := ∃ t, PSs X st t ∧ SS (cc X ρ) W pn t f
theorem vss_nil : VSs X ρ W pn [] sNil := ⟨_, pss_nil, fun π e σ w D hp m h => h σ w m (.refl w)⟩
theorem vss_one (h : VS X ρ W pn st f) : VSs X ρ W pn [st] f := by
  obtain ⟨t, p, s⟩ := h
  exact ⟨t, pss_one p, s⟩
theorem vss_cons (h : VS X ρ W pn st f) (hr : VSs X ρ W pn rest g) : VSs X ρ W pn (st :: rest) (sSeq f g) := by
  obtain ⟨t, p, s⟩ := h
  obtain ⟨t2, p2, s2⟩ := hr
  refine ⟨_, pss_cons p p2, fun π e σ w D hp m h => ?_⟩
  refine s π e σ w _ hp m ?_
  unfold sSeq at h
  cases q : f e with
  | none => rw [q] at h; exact h.elim
  | some x =>
    rw [q] at h
    cases x with
    | nx e1 => exact fun σ' w' m' f' => s2 π e1 σ' w' D hp m' (h.from f')
    | rt b e1 => exact h
    | bk e1 => exact h
    | ct e1 => exact h
    | ex c e1 => exact h
theorem vs_expr (he : VE X ρ W a fa) (hs : swapsWith a none pos.line X.env = pure false := by rfl) : VS X ρ W pn (.Expr a pos) (sExpr fa) := by
  obtain ⟨t, p, s⟩ := he
  refine ⟨_, ps_expr p hs, fun π e σ w D hp m h => ?_⟩
  refine s π e σ w _ m (h.bnd fun o1 e1 v1 w1 m1 f1 k1 h1 => ?_)
  exact h1 σ w1 m1 f1
theorem vs_if {sa sb : List Stmt} (hc : VT X ρ W a ta) (ha : VSs X ρ W pn sa f) (hb : VSs X ρ W pn sb g) : VS X ρ W pn (.If a sa sb pos) (sIf ta f g) := by
  obtain ⟨t, p, s⟩ := hc
  obtain ⟨t2, p2, s2⟩ := ha
  obtain ⟨t3, p3, s3⟩ := hb
  refine ⟨_, ps_if p p2 p3, fun π e σ w D hp m h => ?_⟩
  refine s π e σ w _ m (h.bnd fun o1 e1 v1 w1 m1 f1 k1 h1 => ?_)
  subst k1
  cases o1 with
  | true => rw [if_pos rfl]; exact s2 π e1 σ w1 D hp m1 (h1.from f1)
  | false => rw [if_neg Bool.false_ne_true]; exact s3 π e1 σ w1 D hp m1 (h1.from f1)
theorem ss_asg {C : Cc} {t : TE} {i : Nat} (hi : i ∉ pn) (s : SE C W t fa) : SS C W pn (tAsg t (gName i)) (sAsg i fa) := fun π e σ w D hp m h => by
  refine s π e σ w _ m (h.bnd fun o1 e1 v1 w1 m1 f1 k1 h1 => ?_)
  cases q : fzB e1 o1 with
  | none => rw [q] at h1; exact h1.elim
  | some pr =>
    rw [q] at h1
    obtain ⟨w2, m2, f2, eH, hb⟩ := fzB_sound (e' := pr.2) m1 f1 k1 q
    obtain ⟨w3, m3, f3, eH3, _⟩ := m2.bind f2 (fun p h (z : p.1 = i) => hi (z ▸ hp p h)) hb (fun _ z => z.elim)
    rw [← eH, ← eH3]
    exact h1 _ w3 m3 f3
theorem ss_own {C : Cc} {t : TE} {i : Nat} (hi : i ∉ pn) (s : SE C W t fa) : SS C W pn (tAsg t (gName i)) (sOwn i fa) := fun π e σ w D hp m h => by
  refine s π e σ w _ m (h.bnd fun o1 e1 v1 w1 m1 f1 k1 h1 => ?_)
  cases o1 with
  | s j => exact h1.elim
  | b b =>
    obtain ⟨fp, hb, hf⟩ := k1
    obtain ⟨w3, m3, f3, eH3, _⟩ := m1.bind f1 (fun p h (z : p.1 = i) => hi (z ▸ hp p h)) hb hf
    rw [← eH3]
    exact h1 _ w3 m3 f3
theorem vs_asg (V0 : X.N.Nodup) (i : Nat) {x : Str} {pos' : Pos} (he : VE X ρ W a fa) (hi : X.N[i]? = some x := by rfl) (hp : i ∉ pn := by decide) (hx : Loc X.env.scope x := by first | exact Or.inl rfl | exact Or.inr rfl) (hs : swapsWith a (some (.Name x pos')) pos.line X.env = pure false := by rfl)
    (hf : X.fn x = true ∨ X.env.scope.names.lookup x = some .local := by first | exact .inl rfl | exact .inr rfl) : VS X ρ W pn (.Assign [.Name x pos'] a pos) (sAsg i fa) := by
  obtain ⟨t, p, s⟩ := he
  exact ⟨_, ps_set V0 hi hx p hs hf, ss_asg hp s⟩
theorem vs_own (V0 : X.N.Nodup) (i : Nat) {x : Str} {pos' : Pos} (he : VE X ρ W a fa) (hi : X.N[i]? = some x := by rfl) (hp : i ∉ pn := by decide) (hx : Loc X.env.scope x := by first | exact Or.inl rfl | exact Or.inr rfl) (hs : swapsWith a (some (.Name x pos')) pos.line X.env = pure false := by rfl)
    (hf : X.fn x = true ∨ X.env.scope.names.lookup x = some .local := by first | exact .inl rfl | exact .inr rfl) : VS X ρ W pn (.Assign [.Name x pos'] a pos) (sOwn i fa) := by
  obtain ⟨t, p, s⟩ := he
  exact ⟨_, ps_set V0 hi hx p hs hf, ss_own hp s⟩
theorem vs_retO (he : VE X ρ W a fa) : VS X ρ W pn (.Return (some a) pos) (sRetO fa) := by
  obtain ⟨t, p, s⟩ := he
  refine ⟨_, ps_ret p, fun π e σ w D hp m h => ?_⟩
  refine s π e σ w _ m (h.bnd fun o1 e1 v1 w1 m1 f1 k1 h1 => ?_)
  cases o1 with
  | b b => exact h1 v1 σ w1 m1 f1 k1
  | s i =>
    cases q : at? e1 i with
    | none => simp only [q, Option.bind_none] at h1; exact h1.elim
    | some b =>
      simp only [q, Option.bind_some] at h1
      have hv : σ[i]? = some (some v1) := k1
      obtain ⟨u, g1, g2⟩ := m1.bok i b q
      rw [hv] at g1
      cases g1
      obtain ⟨w2, m2, f2, eH, eG, hl⟩ := m1.drop (i := i)
      rw [← eH]
      refine h1 v1 σ w2 m2 (f1.trans f2) ⟨w1.fp i, by rw [eG, eH]; exact g2, fun a ha => ⟨f1.back (.inr ⟨i, ha⟩), fun j z => ?_⟩⟩
      have hj := m1.dis i j a ha (hl j a z)
      subst hj
      have hi : i < e1.length := by
        unfold at? at q
        cases q2 : e1[i]? with
        | none => rw [q2] at q; cases q
        | some y => exact (List.getElem?_eq_some_iff.mp q2).1
      exact m2.non i (at_set_lt hi) a z
def ItOk (C : Cc) (G : Hp) (J : It) (ds : List PyData) : Prop := ∀ i π e σ w, Mt C π e σ w → Same G w.G → (i < ds.length → J.go i w.H) ∧ (ds.length ≤ i → J.stop i w.H) ∧
  ∀ x H', J.yld i w.H x H' → ∀ d, ds[i]? = some d → ∃ w', Mt C π e σ w' ∧ Frm w w' ∧ w'.H = H' ∧ Rp C.K w'.G x d
def SI (C : Cc) (W : WX) (wi : TI) (f : FI) : Prop := ∀ π e σ w (R : It → Hp → Prop), Mt C π e σ w → Post C W π σ w (f e) (fun w' ds J => ItOk C w'.G J ds) R → wi σ w.H R
def VI (X : Cx) (ρ : Nat → Res) (W : WX) (tg iter : Expr) (f : FI) : Prop := ∃ wi, PI X tg iter wi ∧ SI (cc X ρ) W wi f
theorem it_list {C : Cc} {G : Hp} {p : Addr} {xs : List V} {ds : List PyData} (h : G p = some (.lst xs)) (r : RpAll C.K G xs ds) : ItOk C G (Itl C.K p) ds := fun i π e σ w m s => by
  have hH : w.H p = some (.lst xs) := m.sub _ _ (s _ _ h)
  have hl := r.length
  refine ⟨fun hi => ⟨xs, xs[i]'(by omega), .of hH, List.getElem?_eq_getElem (by omega)⟩, fun hi => ⟨xs, .of hH, by omega⟩, fun x H' y d hd => ?_⟩
  obtain ⟨rfl, hx⟩ := y
  obtain ⟨v, h1, h2⟩ := r.get hd
  have := hx xs (.of hH)
  rw [h1] at this
  cases this
  exact ⟨w, m, .refl w, rfl, h2.mono s⟩
theorem it_rng {C : Cc} {G : Hp} {lo : Int} {n : Nat} : ItOk C G (Itr lo n) (rngN lo n) := fun i π e σ w m s => by
  have hl : (rngN lo n).length = n := by unfold rngN; rw [List.length_map, List.length_range]
  rw [hl]
  refine ⟨fun hi => hi, fun hi => hi, fun x H' y d hd => ?_⟩
  obtain ⟨rfl, rfl⟩ := y
  unfold rngN at hd
  rw [List.getElem?_map] at hd
  cases q : (List.range n)[i]? with
  | none => rw [q] at hd; cases hd
  | some k =>
    rw [q] at hd
    obtain ⟨h1, h2⟩ := List.getElem?_eq_some_iff.mp q
    rw [List.getElem_range] at h2
    subst h2
    cases hd
    exact ⟨w, m, .refl w, rfl, .int _⟩
theorem enumL_get : ∀ {ds : List PyData} {k i : Nat} {d : PyData}, (enumL k ds)[i]? = some d → ∃ d', ds[i]? = some d' ∧ d = .tuple [.int ((k + i : Nat) : Int), d']
  | [], k, i, d, h => by simp [enumL] at h
  | x :: ds, k, 0, d, h => by
    simp [enumL] at h
    exact ⟨x, rfl, h.symm⟩
  | x :: ds, k, i + 1, d, h => by
    have h' : (enumL (k + 1) ds)[i]? = some d := by simpa [enumL] using h
    obtain ⟨d', h1, h2⟩ := enumL_get h'
    exact ⟨d', by simpa using h1, by rw [h2]; congr 3; omega⟩
theorem enumL_length : ∀ (ds : List PyData) (k : Nat), (enumL k ds).length = ds.length
  | [], _ => rfl
  | x :: ds, k => by simp [enumL, enumL_length ds]
theorem it_enum {C : Cc} {G : Hp} {p : Addr} {xs : List V} {ds : List PyData} (h : G p = some (.lst xs)) (r : RpAll C.K G xs ds) : ItOk C G (Ite C.K p) (enumL 0 ds) := fun i π e σ w m s => by
  have hH : w.H p = some (.lst xs) := m.sub _ _ (s _ _ h)
  have hl := r.length
  rw [enumL_length]
  refine ⟨fun hi => ⟨xs, xs[i]'(by omega), .of hH, List.getElem?_eq_getElem (by omega)⟩, fun hi => ⟨xs, .of hH, by omega⟩, fun x H' y d hd => ?_⟩
  obtain ⟨T, z, rfl, hT, rfl, hx⟩ := y
  obtain ⟨d', h1, rfl⟩ := enumL_get hd
  obtain ⟨v, h2, h3⟩ := r.get h1
  have := hx xs (.of hH)
  rw [h2] at this
  cases this
  obtain ⟨w2, m2, f2, eH, fp, k2⟩ := mk_tup (es := [.int ((0 + i : Nat) : Int), d']) m hT (.cons (by rw [Nat.zero_add]; exact .int _) (.cons (h3.mono s) .nil))
  exact ⟨w2, m2, f2, eH, k2.1.1⟩
theorem vi_seq {tg : Expr} (ha : VE X ρ W a fa) : VI X ρ W tg a (iSeq fa) := by
  obtain ⟨t, p, s⟩ := ha
  refine ⟨_, pi_list p, fun π e σ w R m h => ?_⟩
  refine s π e σ w _ m (h.bnd fun o1 e1 v1 w1 m1 f1 k1 h1 => ?_)
  cases q : fz e1 o1 with
  | none => rw [q] at h1; exact h1.elim
  | some pr =>
    rw [q] at h1
    simp only [Option.bind_some] at h1
    obtain ⟨w2, m2, f2, eH, r2⟩ := fz_sound (e' := pr.2) m1 f1 k1 q
    obtain ⟨d, e2⟩ := pr
    cases d with
    | list ds =>
      cases r2 with
      | lst g1 g2 =>
        rw [← eH]
        exact ⟨_, rfl, ⟨_, .of (m2.sub _ _ g1)⟩, h1 _ w2 m2 f2 (it_list g1 g2)⟩
    | none => exact h1.elim
    | bool i => exact h1.elim
    | int i => exact h1.elim
    | str i => exact h1.elim
    | tuple i => exact h1.elim
    | dict i => exact h1.elim
theorem lim_ok {i : Int} (h : lim i = true) : -(2 ^ 62) ≤ i ∧ i < 2 ^ 62 := by
  unfold lim at h
  rw [decide_eq_true_eq] at h
  omega
theorem vi_range1 {tg : Expr} (hm : X.mg "range" = none) (ha : VE X ρ W a fa) (hg : Gl X "range" := by rfl) (hs : starEach [a] X.env = (false, eval a X.env) :: starEach [] X.env := by rfl) :
    VI X ρ W tg (.Call (.Name "range" p) [a] [] pos) (iRange1 fa) := by
  obtain ⟨t, p, s⟩ := ha
  refine ⟨_, pi_range1 hg hm (pa_cons p pa_nil hs) hs, fun π e σ w R m h => ?_⟩
  refine s π e σ w _ m (h.bnd fun o1 e1 v1 w1 m1 f1 k1 h1 => ?_)
  cases q1 : res e1 o1 with
  | none => rw [q1] at h1; exact h1.elim
  | some d1 =>
    rw [q1] at h1
    have r := res_sound m1 k1 q1
    split at h1
    · rename_i j z
      cases z; cases r
      split at h1
      · rename_i hl
        have hl' := lim_ok hl
        exact ⟨j, rfl, hl'.1, hl'.2, h1 _ w1 m1 f1 it_rng⟩
      · exact h1.elim
    · exact h1.elim
theorem vi_range2 {tg : Expr} (hm : X.mg "range" = none) (ha : VE X ρ W a fa) (hb : VE X ρ W b fb) (hg : Gl X "range" := by rfl) (hs : starEach [a, b] X.env = (false, eval a X.env) :: starEach [b] X.env := by rfl) (hs2 : starEach [b] X.env = (false, eval b X.env) :: starEach [] X.env := by rfl)
    (hpl : (backTo pos (starEach [b] X.env)).any (·.1) = false := by rfl) : VI X ρ W tg (.Call (.Name "range" p) [a, b] [] pos) (iRange2 fa fb) := by
  obtain ⟨t, p, s⟩ := ha
  obtain ⟨t2, p2, s2⟩ := hb
  refine ⟨_, pi_range2 hg hm (pa_cons p (pa_cons p2 pa_nil hs2) hs) (by rw [hs, hs2]; rfl) hs2, fun π e σ w R m h => ?_⟩
  refine s π e σ w _ m (h.bnd fun o1 e1 v1 w1 m1 f1 k1 h1 => ?_)
  refine s2 π e1 σ w1 _ m1 ((h1.from f1).bnd fun o2 e2 v2 w2 m2 f2 k2 h2 => ?_)
  have h3 := h2.from f2
  have r1 : ∀ d, res e2 o1 = some d → Rq (cc X ρ).K w2.G w2.H v1 d := fun d q => res_sound m2 (k1.step f2) q
  have r2 : ∀ d, res e2 o2 = some d → Rq (cc X ρ).K w2.G w2.H v2 d := fun d q => res_sound m2 k2 q
  split at h3
  · rename_i i j q1 q2
    have z1 := r1 _ q1
    have z2 := r2 _ q2
    cases z1; cases z2
    split at h3
    · rename_i hl
      have hi := lim_ok hl.1
      have hj := lim_ok hl.2
      exact ⟨i, j, rfl, ⟨hi.1, hi.2, hj.1, hj.2⟩, h3 _ w2 m2 (.refl _) it_rng⟩
    · exact h3.elim
  · exact h3.elim
theorem vi_enum {elts : List Expr} {kk : Nat} {tpos : Pos} (hm : X.mg "enumerate" = none) (ha : VE X ρ W a fa) (hg : Gl X "enumerate" := by rfl) (hs : starEach [a] X.env = [(false, eval a X.env)] := by rfl) :
    VI X ρ W (.Tuple elts kk tpos) (.Call (.Name "enumerate" p) [a] [] pos) (iEnumr fa) := by
  obtain ⟨t, p, s⟩ := ha
  refine ⟨_, pi_enum hg hm (pa_cons p pa_nil hs) hs, fun π e σ w R m h => ?_⟩
  refine s π e σ w _ m (h.bnd fun o1 e1 v1 w1 m1 f1 k1 h1 => ?_)
  cases q : fz e1 o1 with
  | none => rw [q] at h1; exact h1.elim
  | some pr =>
    rw [q] at h1
    simp only [Option.bind_some] at h1
    obtain ⟨w2, m2, f2, eH, r2⟩ := fz_sound (e' := pr.2) m1 f1 k1 q
    obtain ⟨d, e2⟩ := pr
    cases d with
    | list ds =>
      cases r2 with
      | lst g1 g2 =>
        rw [← eH]
        exact ⟨_, _, rfl, .of (m2.sub _ _ g1), h1 _ w2 m2 f2 (it_enum g1 g2)⟩
    | none => exact h1.elim
    | bool i => exact h1.elim
    | int i => exact h1.elim
    | str i => exact h1.elim
    | tuple i => exact h1.elim
    | dict i => exact h1.elim
end
end VL
set_option maxRecDepth 100000
namespace VL
open PySem L2
section
variable {X : Cx} {ρ : Nat → Res} {W : WX} {pn : List Nat} {st : Stmt} {rest : List Stmt} {a b c tg iter : Expr} {es : List Expr} {pos p : Pos} {fa fb fc : FE} {ta tb tc : FT} {f g : FS} {fi : FI} {ft : FG}
def SG (C : Cc) (pn : List Nat) (t : TG) (f : FG) : Prop := ∀ π e σ w d x e' (Q : St → Hp → Prop), (∀ p ∈ π, p.1 ∈ pn) → Mt C π e σ w → Rp C.K w.G x d → f d e = some e' → (∀ σ' w', Mt C π e' σ' w' → Frm w w' → w'.H = w.H → Q σ' w'.H) → t x σ w.H Q
/-- also what becomes of the slots: those of vs alone change -/
def VG (X : Cx) (ρ : Nat → Res) (pn : List Nat) (tg : Expr) (f : FG) : Prop := ∃ t, PG X tg t ∧ SG (cc X ρ) pn t f
theorem bind_fr {C : Cc} {π : List (Nat × V)} {e : Env} {σ : St} {w : WS} {i : Nat} {d : PyData} {x : V} (m : Mt C π e σ w) (hp : ∀ p ∈ π, p.1 ≠ i) (r : Rp C.K w.G x d) :
    ∃ w', Mt C π (e.set i (some (.fr d))) (σ.set i (some x)) w' ∧ Frm w w' ∧ w'.H = w.H ∧ w'.G = w.G := m.bind (.refl w) hp (fp := fun _ => False) ⟨r, fun _ z => z⟩ fun _ z => z.elim
theorem sg_name {C : Cc} {i : Nat} (hi : i ∉ pn) : SG C pn (gName i) (gN i) := fun π e σ w d x e' Q hp m r hf h => by
  cases hf
  obtain ⟨w', m', f', eH, _⟩ := bind_fr m (fun p hq (z : p.1 = i) => hi (z ▸ hp p hq)) r
  rw [← eH]
  exact h _ w' m' f' eH
theorem vg_name (V0 : X.N.Nodup) (i : Nat) {x : Str} (hi : X.N[i]? = some x := by rfl) (hx : Loc X.env.scope x := by first | exact Or.inl rfl | exact Or.inr rfl) (hp : i ∉ pn := by decide)
    (hf : X.fn x = true ∨ X.env.scope.names.lookup x = some .local := by first | exact .inl rfl | exact .inr rfl) : VG X ρ pn (.Name x pos) (gN i) := ⟨_, pg_name V0 hi hx hf, sg_name hp⟩
theorem rp_tup {K : PySem.W.Frag} {G : Hp} {x : V} {ds : List PyData} (r : Rp K G x (.tuple ds)) : ∃ p xs, x = .ref p ∧ G p = some (.tup xs) ∧ RpAll K G xs ds := by
  cases r with
  | tup h1 h2 => exact ⟨_, _, rfl, h1, h2⟩
theorem vg_t2 (V0 : X.N.Nodup) (hc : X.calm = true) (i j : Nat) {x y : Str} {px py : Pos} {kk} (hi : X.N[i]? = some x := by rfl) (hj : X.N[j]? = some y := by rfl) (hx : Loc X.env.scope x := by first | exact Or.inl rfl | exact Or.inr rfl) (hy : Loc X.env.scope y := by first | exact Or.inl rfl | exact Or.inr rfl)
    (hp : i ∉ pn := by decide) (hq : j ∉ pn := by decide)
    (hf : X.fn x = true ∨ X.env.scope.names.lookup x = some .local := by first | exact .inl rfl | exact .inr rfl) (hf2 : X.fn y = true ∨ X.env.scope.names.lookup y = some .local := by first | exact .inl rfl | exact .inr rfl)
    (hn : (assignEach [.Name x px, .Name y py] X.env).length = 2 := by rfl) (hst : (assignEach [.Name x px, .Name y py] X.env).findIdx? (·.1) = none := by rfl)
    (hs1 : (assignEach (.Name x px :: [.Name y py]) X.env).map (·.2) = assign (.Name x px) X.env :: (assignEach [.Name y py] X.env).map (·.2) := by rfl)
    (hs2 : (assignEach (.Name y py :: []) X.env).map (·.2) = assign (.Name y py) X.env :: (assignEach [] X.env).map (·.2) := by rfl) : VG X ρ pn (.Tuple [.Name x px, .Name y py] kk pos) (gT2 i j) := by
  refine ⟨_, pg_tup hc (pgs_cons (pg_name V0 hi hx hf) (pgs_cons (pg_name V0 hj hy hf2) pgs_nil hs2) hs1) hn hst, fun π e σ w d z e' Q hpi m r hg h => ?_⟩
  unfold gT2 at hg
  split at hg
  · cases hg
    obtain ⟨q, xs, rfl, g1, g2⟩ := rp_tup r
    cases g2 with
    | cons r1 g3 =>
      cases g3 with
      | cons r2 g4 =>
        cases g4
        obtain ⟨w1, m1, f1, eH1, eG1⟩ := bind_fr m (fun p hq (z : p.1 = i) => hp (z ▸ hpi p hq)) r1
        obtain ⟨w2, m2, f2, eH2, _⟩ := bind_fr m1 (fun p hq' (z : p.1 = j) => hq (z ▸ hpi p hq')) (by rw [eG1]; exact r2)
        refine ⟨q, _, rfl, .of (m.sub _ _ g1), rfl, _, _, rfl, _, _, rfl, rfl, ?_⟩
        rw [← eH1, ← eH2]
        exact h _ w2 m2 (f1.trans f2) (eH2.trans eH1)
  · cases hg
theorem forget_post {C : Cc} {π : List (Nat × V)} {e : Env} {σ : St} {w w0 : WS} {vs : List Nat} {D : St → Hp → Prop} (m : Mt C π e σ w) (f : Frm w0 w) (h : ∀ σ' w', Mt C π (forget vs e) σ' w' → Frm w0 w' → D σ' w'.H) : D σ w.H := by
  obtain ⟨w', m', f', eH, _⟩ := m.forget (vs := vs)
  rw [← eH]
  exact h σ w' m' (f.trans f')
theorem ss_for {C : Cc} {wi : TI} {t : TG} {tb : TS} (dead : List Nat) (si : SI C W wi fi) (sg : SG C pn t ft) (sb : SS C W pn tb f) : SS C W pn (tFor wi t tb) (sFor fi ft f dead) := fun π e σ w D hp m h => by
  refine si π e σ w _ m (h.bnd fun ds e1 J w1 m1 f1 k1 h1 => ?_)
  have h2 := h1.from f1
  refine ⟨fun i n σ' H' => n = ds.length - i ∧ i ≤ ds.length ∧ ∃ e' w', w'.H = H' ∧ Mt C π e' σ' w' ∧ Same w1.G w'.G ∧ PostS C W π w' (sForL ft f dead (ds.drop i) e') D, ⟨ds.length, by simp, Nat.zero_le _, e1, w1, rfl, m1, Same.refl _, by rw [List.drop_zero]; exact h2⟩, ?_⟩
  rintro i n σ' H' ⟨rfl, hi, e', w', rfl, m', sG, h3⟩
  obtain ⟨go, stop, yld⟩ := k1 i π e' σ' w' m' sG
  by_cases hlt : i < ds.length
  · refine .inr ⟨go hlt, fun σ2 H2 => i + 1 ≤ ds.length ∧ ∃ e2 w2, w2.H = H2 ∧ Mt C π e2 σ2 w2 ∧ Same w1.G w2.G ∧ PostS C W π w2 (sForL ft f dead (ds.drop (i + 1)) e2) D, fun σ2 H2 q => ⟨ds.length - (i + 1), by omega, rfl, q⟩, fun x H2 y => ?_⟩
    obtain ⟨w2, m2, f2, eH2, r2⟩ := yld x H2 y ds[i] (List.getElem?_eq_getElem hlt)
    subst eH2
    rw [List.drop_eq_getElem_cons hlt] at h3
    have h4 := h3.from f2
    unfold sForL at h4
    cases q : ft ds[i] e' with
    | none => rw [q] at h4; exact h4.elim
    | some e3 =>
      rw [q] at h4
      simp only at h4
      refine sg π e' σ' w2 ds[i] x e3 _ hp m2 r2 q fun σ3 w3 m3 f3 _ => ?_
      have h5 := h4.from f3
      refine sb π e3 σ3 w3 _ hp m3 ?_
      have sG3 : Same w1.G w3.G := (sG.trans f2.g).trans f3.g
      have again : ∀ {σ4 w4 e4}, Mt C π e4 σ4 w4 → Frm w3 w4 → PostS C W π w3 (sForL ft f dead (ds.drop (i + 1)) (forget dead e4)) D →
          i + 1 ≤ ds.length ∧ ∃ e2 w2, w2.H = w4.H ∧ Mt C π e2 σ4 w2 ∧ Same w1.G w2.G ∧ PostS C W π w2 (sForL ft f dead (ds.drop (i + 1)) e2) D := fun {σ4 w4 e4} m4 f4 h6 => by
        obtain ⟨w5, m5, f5, eH5, eG5, _⟩ := m4.forget (vs := dead)
        exact ⟨hlt, _, w5, eH5, m5, (sG3.trans f4.g).trans f5.g, h6.from (f4.trans f5)⟩
      cases q2 : f e3 with
      | none => rw [q2] at h5; exact h5.elim
      | some x =>
        rw [q2] at h5
        cases x with
        | nx e4 => exact fun σ4 w4 m4 f4 => again m4 f4 h5
        | ct e4 => exact fun σ4 w4 m4 f4 => again m4 f4 h5
        | bk e4 => exact fun σ4 w4 m4 f4 => forget_post m4 f4 h5
        | rt b e4 => exact h5
        | ex c e4 => exact h5
  · have e2 : i = ds.length := by omega
    subst e2
    rw [List.drop_length] at h3
    exact .inl ⟨stop (Nat.le_refl _), forget_post m' (.refl _) h3⟩
theorem vs_for (V0 : Vx X W) (dead : List Nat) {body : List Stmt} (hi : VI X ρ W tg iter fi) (hg : VG X ρ pn tg ft) (hb : VSs X ρ W pn body f) (hs : ∀ x, foldedSetIterable iter X.env x = pure x := by intro _; rfl) : VS X ρ W pn (.For tg iter body [] pos) (sFor fi ft f dead) := by
  obtain ⟨wi, pi, si⟩ := hi
  obtain ⟨t, pg, sg⟩ := hg
  obtain ⟨tb, pb, sb⟩ := hb
  exact ⟨_, ps_for V0.po V0.calm pi pg pb hs, ss_for dead si sg sb⟩
theorem vs_while (V0 : Vx X W) (dead : List Nat) (n : Nat) {body : List Stmt} (hc : VT X ρ W a ta) (hb : VSs X ρ W pn body f) : VS X ρ W pn (.While a body [] pos) (sWhile ta f dead n) := by
  obtain ⟨t, p, s⟩ := hc
  obtain ⟨tb, pb, sb⟩ := hb
  refine ⟨_, ps_while V0.po p pb, fun π e σ w D hp m h => ?_⟩
  refine ⟨fun n σ' H' => ∃ e' w', w'.H = H' ∧ Mt (cc X ρ) π e' σ' w' ∧ PostS (cc X ρ) W π w' (sWhile ta f dead n e') D, ⟨n, e, w, rfl, m, h⟩, ?_⟩
  rintro n σ' H' ⟨e', w', rfl, m', h3⟩
  cases n with
  | zero => exact h3.elim
  | succ n =>
    refine s π e' σ' w' _ m' (PostS.bnd (rel := fun _ b b' => b = b') h3 fun o1 e1 v1 w1 m1 f1 k1 h1 => ?_)
    subst k1
    have h4 := h1.from f1
    cases o1 with
    | false => rw [if_neg Bool.false_ne_true]; exact h4 σ' w1 m1 (.refl _)
    | true =>
      rw [if_pos rfl]
      simp only at h4
      refine ⟨fun σ2 H2 => ∃ e2 w2, w2.H = H2 ∧ Mt (cc X ρ) π e2 σ2 w2 ∧ PostS (cc X ρ) W π w2 (sWhile ta f dead n e2) D, fun σ2 H2 q => ⟨n, Nat.lt_succ_self n, q⟩, ?_⟩
      refine sb π e1 σ' w1 _ hp m1 ?_
      have again : ∀ {σ4 w4 e4}, Mt (cc X ρ) π e4 σ4 w4 → Frm w1 w4 → PostS (cc X ρ) W π w1 (sWhile ta f dead n (forget dead e4)) D →
          ∃ e2 w2, w2.H = w4.H ∧ Mt (cc X ρ) π e2 σ4 w2 ∧ PostS (cc X ρ) W π w2 (sWhile ta f dead n e2) D := fun {σ4 w4 e4} m4 f4 h6 => by
        obtain ⟨w5, m5, f5, eH5, eG5, _⟩ := m4.forget (vs := dead)
        exact ⟨_, w5, eH5, m5, h6.from (f4.trans f5)⟩
      cases q2 : f e1 with
      | none => rw [q2] at h4; exact h4.elim
      | some x =>
        rw [q2] at h4
        cases x with
        | nx e4 => exact fun σ4 w4 m4 f4 => again m4 f4 h4
        | ct e4 => exact fun σ4 w4 m4 f4 => again m4 f4 h4
        | bk e4 => exact fun σ4 w4 m4 f4 => forget_post m4 f4 h4
        | rt b e4 => exact h4
        | ex c e4 => exact h4
abbrev W0 : WX := fun _ _ _ _ => False
/-- the tests of a comprehension -/
def VC (X : Cx) (ρ : Nat → Res) (ifs : List Expr) (f : FT) : Prop := ∃ t, PTs X ifs t ∧ ST (cc X ρ) W0 t f
theorem vc_no : VC X ρ [] tTrue := ⟨_, pts_nil, fun π e σ w Q m h => h true w m (.refl w) rfl⟩
theorem vc_if (h : VT X ρ W0 a ta) : VC X ρ [a] ta := by
  obtain ⟨t, p, s⟩ := h
  exact ⟨_, pts_one p, s⟩
theorem wipe_get {σ : St} {i : Nat} : ∀ {vs : List Nat}, i ∉ vs → (wipe σ vs)[i]? = σ[i]?
  | [], _ => rfl
  | v :: vs, h => by
    simp only [List.mem_cons, not_or] at h
    show ((wipe σ vs).set v none)[i]? = σ[i]?
    rw [List.getElem?_set_ne (Ne.symm h.1)]
    exact wipe_get h.2
/-- into the comprehension's own frame, and out of it -/
theorem Mt.wipe {C : Cc} {π : List (Nat × V)} {e : Env} {σ : St} {w : WS} {vs : List Nat} (m : Mt C π e σ w) (hv : ∀ i b, at? e i = some b → i ∉ vs) : Mt C [] e (L2.wipe σ vs) w :=
  ⟨by rw [wipe_length]; exact m.len, m.sub, fun i b q => by
    obtain ⟨v, h1, h2⟩ := m.bok i b q
    exact ⟨v, by rw [wipe_get (hv i b q)]; exact h1, h2⟩, m.non, m.dis, fun p h => by cases h⟩
theorem Mt.unwipe {C : Cc} {π : List (Nat × V)} {e : Env} {σ σ' : St} {w : WS} {vs : List Nat} (m : Mt C [] e σ' w) (hw : L2.wipe σ' vs = L2.wipe σ vs) (hl : σ'.length = σ.length) (hv : ∀ i b, at? e i = some b → i ∉ vs) (hp : ∀ p ∈ π, σ[p.1]? = some (some p.2)) : Mt C π e σ w :=
  ⟨m.len.trans hl, m.sub, fun i b q => by
    obtain ⟨v, h1, h2⟩ := m.bok i b q
    refine ⟨v, ?_, h2⟩
    have hi := hv i b q
    have e1 : (L2.wipe σ' vs)[i]? = (L2.wipe σ vs)[i]? := by rw [hw]
    rw [wipe_get hi, wipe_get hi] at e1
    rw [← e1]
    exact h1, m.non, m.dis, hp⟩
/-- the wiped slots may change alone -/
def WipeG (t : TG) (vs : List Nat) : Prop := ∀ x σ τ H (Q : St → Hp → Prop), L2.wipe σ vs = τ → t x σ H (fun σ' H' => L2.wipe σ' vs = τ → σ'.length = σ.length → Q σ' H') → t x σ H fun σ' H' => L2.wipe σ' vs = τ ∧ Q σ' H'
theorem wipe_set {σ : St} {i : Nat} {x : Option V} : ∀ {vs : List Nat}, i ∈ vs → L2.wipe (σ.set i x) vs = L2.wipe σ vs
  | v :: vs, h => by
    show (L2.wipe (σ.set i x) vs).set v none = (L2.wipe σ vs).set v none
    by_cases hi : i ∈ vs
    · rw [wipe_set hi]
    · have hv : i = v := by
        rcases List.mem_cons.mp h with e | e
        · exact e
        · exact absurd e hi
      subst hv
      apply List.ext_getElem?
      intro k
      by_cases hk : k = i
      · subst hk
        by_cases hl : k < σ.length
        · rw [List.getElem?_set_self (by rw [wipe_length, List.length_set]; exact hl), List.getElem?_set_self (by rw [wipe_length]; exact hl)]
        · rw [List.getElem?_eq_none (by rw [List.length_set, wipe_length, List.length_set]; omega), List.getElem?_eq_none (by rw [List.length_set, wipe_length]; omega)]
      · rw [List.getElem?_set_ne (Ne.symm hk), List.getElem?_set_ne (Ne.symm hk)]
        have go : ∀ us : List Nat, (L2.wipe (σ.set i x) us)[k]? = (L2.wipe σ us)[k]? := by
          intro us
          induction us with
          | nil => exact List.getElem?_set_ne (Ne.symm hk)
          | cons u us ih =>
            show ((L2.wipe (σ.set i x) us).set u none)[k]? = ((L2.wipe σ us).set u none)[k]?
            by_cases hu : u = k
            · subst hu
              by_cases hl : u < σ.length
              · rw [List.getElem?_set_self (by rw [wipe_length, List.length_set]; exact hl), List.getElem?_set_self (by rw [wipe_length]; exact hl)]
              · rw [List.getElem?_eq_none (by rw [List.length_set, wipe_length, List.length_set]; omega), List.getElem?_eq_none (by rw [List.length_set, wipe_length]; omega)]
            · rw [List.getElem?_set_ne hu, List.getElem?_set_ne hu]
              exact ih
        exact go vs
theorem wipe_wipe {σ : St} {vs : List Nat} : L2.wipe (L2.wipe σ vs) vs = L2.wipe σ vs := by
  have go : ∀ us : List Nat, (∀ u ∈ us, u ∈ vs) → L2.wipe (L2.wipe σ vs) us = L2.wipe σ vs := by
    intro us
    induction us with
    | nil => intro _; rfl
    | cons u us ih =>
      intro hu
      show (L2.wipe (L2.wipe σ vs) us).set u none = L2.wipe σ vs
      rw [ih fun v hv => hu v (List.mem_cons_of_mem _ hv)]
      apply List.ext_getElem?
      intro k
      by_cases hk : u = k
      · subst hk
        by_cases hl : u < σ.length
        · rw [List.getElem?_set_self (by rw [wipe_length]; exact hl)]
          cases q : (L2.wipe σ vs)[u]? with
          | none =>
            rw [List.getElem?_eq_none_iff, wipe_length] at q
            omega
          | some z =>
            cases z with
            | none => rfl
            | some z => exact absurd (hu u List.mem_cons_self) (wipe_some q).2
        · rw [List.getElem?_eq_none (by rw [List.length_set, wipe_length]; omega), List.getElem?_eq_none (by rw [wipe_length]; omega)]
      · rw [List.getElem?_set_ne hk]
  exact go vs fun _ h => h
theorem wg_name {i : Nat} {vs : List Nat} (h : i ∈ vs) : WipeG (gName i) vs := fun x σ τ H Q e q => ⟨(wipe_set h).trans e, q ((wipe_set h).trans e) List.length_set⟩
theorem wg_t2 {K : PySem.W.Frag} {n i j : Nat} {vs : List Nat} (h : i ∈ vs) (h2 : j ∈ vs) : WipeG (gTup K n (gCons (gName i) (gCons (gName j) gNil))) vs := fun x σ τ H Q e q => by
  obtain ⟨a, xs, e1, h1, hl, v, r, e2, v', r', e3, e4, q⟩ := q
  exact ⟨a, xs, e1, h1, hl, v, r, e2, v', r', e3, e4, ((wipe_set h2).trans (wipe_set h)).trans e, q (((wipe_set h2).trans (wipe_set h)).trans e) (by rw [List.length_set, List.length_set])⟩
theorem se_lc {C : Cc} {wi : TI} {t : TG} {tt : TT} {te : TE} {vs : List Nat} (si : SI C W wi fi) (sg : SG C [] t ft) (wg : WipeG t vs) (st : ST C W0 tt ta) (sf : SE C W0 te fa) : SE C W (tLc wi t tt te vs) (fLc fi ft ta fa vs) := fun π e σ w Q m h => by
  refine si π e σ w _ m (h.bnd fun ds e1 J w1 m1 f1 k1 h1 => ?_)
  intro D hD
  obtain ⟨wf, mf, ff, eHf, eGf, hlf⟩ := m1.forget (vs := vs)
  have hDf : wf.H D = none := by rw [eHf]; exact hD
  have hDw : w.H D = none := f1.t D hD
  have hG1 : wf.G D = none := mf.sub.free hDf
  have m2 := mf.new (o := .lst []) hDf
  have f2 := Frm.new (o := .lst []) hDf
  have hno : ∀ i, ¬ (wf.new D (.lst [])).fp i D := fun i => mf.notOwned hDf i
  have mw : Mt C [] (forget vs e1) (L2.wipe σ vs) (wf.new D (.lst [])) := m2.wipe fun i b q => (at_forget q).2
  -- the invariant
  refine ⟨fun i n H' => n = ds.length - i ∧ i ≤ ds.length ∧ ∃ e' w' acc xs, w'.H = H' ∧ Mt C [] e' (L2.wipe σ vs) w' ∧ (∀ j b, at? e' j = some b → j ∉ vs) ∧ Frm w1 w' ∧ Same w1.G w'.G ∧ w'.H D = some (.lst xs) ∧ w'.G D = none ∧ (∀ j, ¬ w'.fp j D) ∧ RpAll C.K w'.G xs acc ∧
      Post C W π σ w (fLcL ft ta fa vs (ds.drop i) acc e') (OOk C σ w) Q,
    ⟨ds.length, by simp, Nat.zero_le _, forget vs e1, wf.new D (.lst []), [], [], by rw [show (wf.new D (.lst [])).H = upd wf.H D (.lst []) from rfl, eHf], mw, fun j b q => (at_forget q).2, ff.trans f2, (ff.trans f2).g, upd_same, hG1, hno, .nil, by rw [List.drop_zero]; exact h1⟩, ?_⟩
  rintro i n H' ⟨rfl, hi, e', w', acc, xs, rfl, m', hv', fr', sG, hDx, hGD, hnD, rA, h3⟩
  obtain ⟨go, stop, yld⟩ := k1 i [] e' _ w' m' sG
  have frw : Frm w w' := f1.trans fr'
  by_cases hlt : i < ds.length
  · refine .inr ⟨go hlt, fun H2 => i + 1 ≤ ds.length ∧ ∃ e' w' acc xs, w'.H = H2 ∧ Mt C [] e' (L2.wipe σ vs) w' ∧ (∀ j b, at? e' j = some b → j ∉ vs) ∧ Frm w1 w' ∧ Same w1.G w'.G ∧ w'.H D = some (.lst xs) ∧ w'.G D = none ∧ (∀ j, ¬ w'.fp j D) ∧ RpAll C.K w'.G xs acc ∧
      Post C W π σ w (fLcL ft ta fa vs (ds.drop (i + 1)) acc e') (OOk C σ w) Q, fun H2 q => ⟨ds.length - (i + 1), by omega, rfl, q⟩, fun x H2 y => ?_⟩
    obtain ⟨w2, m2, f2, eH2, r2⟩ := yld x H2 y ds[i] (List.getElem?_eq_getElem hlt)
    subst eH2
    rw [List.drop_eq_getElem_cons hlt] at h3
    unfold fLcL at h3
    cases q : ft ds[i] e' with
    | none => rw [q] at h3; exact h3.elim
    | some e3 =>
      rw [q] at h3
      simp only at h3
      -- the target
      have ww := wipe_wipe (σ := σ) (vs := vs)
      -- the rest of the turn, for whatever slots
      have turn : ∀ σ3 w3, L2.wipe σ3 vs = L2.wipe σ vs → σ3.length = σ.length → Mt C [] e3 σ3 w3 → Frm w2 w3 → tt σ3 w3.H fun b H3 => if b = true then te σ3 H3 fun y H4 => ∃ acc, H4 D = some (.lst acc) ∧ acc.length < sizeLine ∧
          (i + 1 ≤ ds.length ∧ ∃ e' w' acc_1 xs, w'.H = upd H4 D (.lst (acc ++ [y])) ∧ Mt C [] e' (L2.wipe σ vs) w' ∧ (∀ j b, at? e' j = some b → j ∉ vs) ∧ Frm w1 w' ∧ Same w1.G w'.G ∧ w'.H D = some (.lst xs) ∧ w'.G D = none ∧ (∀ j, ¬ w'.fp j D) ∧ RpAll C.K w'.G xs acc_1 ∧ Post C W π σ w (fLcL ft ta fa vs (ds.drop (i + 1)) acc_1 e') (OOk C σ w) Q)
          else (i + 1 ≤ ds.length ∧ ∃ e' w' acc_1 xs, w'.H = H3 ∧ Mt C [] e' (L2.wipe σ vs) w' ∧ (∀ j b, at? e' j = some b → j ∉ vs) ∧ Frm w1 w' ∧ Same w1.G w'.G ∧ w'.H D = some (.lst xs) ∧ w'.G D = none ∧ (∀ j, ¬ w'.fp j D) ∧ RpAll C.K w'.G xs acc_1 ∧ Post C W π σ w (fLcL ft ta fa vs (ds.drop (i + 1)) acc_1 e') (OOk C σ w) Q) := by
        intro σ3 w3 hw3 hl3 m3 f3
        have fD : ∀ {w4}, Frm w' w4 → w4.H D = some (.lst xs) ∧ w4.G D = none ∧ ∀ j, ¬ w4.fp j D := fun {w4} f => by
          obtain ⟨g1, g2, g3⟩ := f.k D _ hDx hnD
          exact ⟨g1, g2.trans hGD, g3⟩
        refine st [] e3 σ3 w3 _ m3 ?_
        cases qt : ta e3 with
        | none => rw [qt] at h3; exact h3.elim
        | some ot =>
          rw [qt] at h3
          cases ot with
          | ex c e => exact h3.elim
          | ok bt e4 =>
            intro b w4 m4 f4 eb
            subst eb
            have f24 : Frm w' w4 := (f2.trans f3).trans f4
            cases bt with
            | false =>
              rw [if_neg Bool.false_ne_true]
              simp only at h3
              obtain ⟨w5, m5, f5, eH5, eG5, _⟩ := m4.forget (vs := vs)
              have f25 := f24.trans f5
              obtain ⟨g1, g2, g3⟩ := fD f25
              refine ⟨hlt, _, w5, acc, xs, eH5, (m5.unwipe (π := []) (vs := vs) (by rw [ww]; exact hw3) (by rw [wipe_length]; exact hl3) (fun j b q => (at_forget q).2) (fun p h => by cases h)), fun j b q => (at_forget q).2, fr'.trans f25, sG.trans f25.g, g1, g2, g3, rA.mono f25.g, h3⟩
            | true =>
              rw [if_pos rfl]
              simp only at h3
              refine sf [] e4 σ3 w4 _ m4 ?_
              cases qf : fa e4 with
              | none => rw [qf] at h3; exact h3.elim
              | some of_ =>
                rw [qf] at h3
                cases of_ with
                | ex c e => exact h3.elim
                | ok o e5 =>
                  intro yv w5 m5 f5 k5
                  simp only at h3
                  cases qz : fz e5 o with
                  | none => rw [qz] at h3; exact h3.elim
                  | some pz =>
                    rw [qz] at h3
                    obtain ⟨dz, ez⟩ := pz
                    simp only at h3
                    obtain ⟨w6, m6, f6, eH6, r6⟩ := fz_sound m5 f5 k5 qz
                    split at h3
                    case isFalse => exact h3.elim
                    case isTrue hbig =>
                      have f26 : Frm w' w6 := f24.trans f6
                      obtain ⟨g1, g2, g3⟩ := fD f26
                      have hlen := rA.length
                      refine ⟨xs, by rw [← eH6]; exact g1, by rw [hlen]; exact Nat.lt_of_lt_of_le hbig big_le, hlt, ?_⟩
                      -- D grows
                      obtain ⟨w7, m7, f7, eH7, eG7, hl7⟩ := m6.forget (vs := vs)
                      have f27 := f26.trans f7
                      obtain ⟨a1, a2, a3⟩ := fD f27
                      have m8 : Mt C [] (forget vs ez) (L2.wipe σ vs) { w7 with H := upd w7.H D (.lst (xs ++ [yv])) } := by
                        have m7' := m7.unwipe (σ := L2.wipe σ vs) (π := []) (vs := vs) (by rw [ww]; exact hw3) (by rw [wipe_length]; exact hl3) (fun j b q => (at_forget q).2) (fun p h => by cases h)
                        refine ⟨m7'.len, fun a u qa => ?_, fun j b qb => ?_, m7'.non, m7'.dis, m7'.pin⟩
                        · show upd w7.H D (.lst (xs ++ [yv])) a = some u
                          rw [upd_ne (ne_of_none qa a2)]
                          exact m7'.sub a u qa
                        · obtain ⟨v, b1, b2⟩ := m7'.bok j b qb
                          refine ⟨v, b1, b2.mono (Same.refl _) fun a ha => ⟨upd_ne fun z => a3 j (by rw [← z]; exact ha), rfl⟩⟩
                      refine ⟨_, _, acc ++ [dz], xs ++ [yv], by show upd w7.H D _ = _; rw [eH7, eH6], m8, fun j b q => (at_forget q).2, ⟨(fr'.trans f27).g, fun a o ha hna => ?_, fun a ha => ?_⟩, sG.trans f27.g, upd_same, a2, a3, (rA.mono f27.g).append (.cons (r6.mono f7.g) .nil), h3⟩
                      · obtain ⟨b1, b2, b3⟩ := (fr'.trans f27).k a o ha hna
                        refine ⟨?_, b2, b3⟩
                        show upd w7.H D _ a = some o
                        rw [upd_ne (ne_of_none ha hD)]
                        exact b1
                      · by_cases z : a = D
                        · rw [z]; exact hD
                        · have ha' : upd w7.H D (.lst (xs ++ [yv])) a = none := ha
                          rw [upd_ne z] at ha'
                          exact (fr'.trans f27).t a ha'
      exact wg x _ _ _ _ ww (sg [] e' _ w2 ds[i] x e3 _ (fun p h => by cases h) m2 r2 q fun σ3 w3 m3 f3 _ hw hl => turn σ3 w3 hw (hl.trans (wipe_length σ vs)) m3 f3)
  · have e2 : i = ds.length := by omega
    subst e2
    rw [List.drop_length] at h3
    refine .inl ⟨stop (Nat.le_refl _), ?_⟩
    have mu : Mt C π e' σ w' := m'.unwipe (σ := σ) (vs := vs) wipe_wipe (wipe_length σ vs) hv' m.pin
    exact h3 (.ref D) w' mu frw ⟨fun a => a = D, ⟨D, xs, rfl, hGD, hDx, rA, fun _ => Iff.rfl⟩, fun a ha => by subst ha; exact ⟨.inl hDw, hnD⟩⟩
end
end VL
set_option maxRecDepth 100000
namespace VL
open PySem L2
section
variable {X : Cx} {ρ : Nat → Res} {W : WX} {pn : List Nat} {st : Stmt} {rest : List Stmt} {a b c tg iter elt : Expr} {es ifs : List Expr} {pos p : Pos} {fa fb fc : FE} {ta tb tc : FT} {f g : FS} {fi : FI} {ft : FG} {as_ : FA}
theorem Vx.blk (V0 : Vx X W) (s : Shared) (H : Hp) (scope : Scope) (cenv : PySem.Env) (fp : List Addr) : Vx (X.blk s H scope cenv fp) W0 := ⟨V0.calm, V0.room, V0.gd, V0.sm, V0.nd, takes0, PassesOwn.never⟩
theorem pe_less {t t' : TE} (h : PE X a t) (k : ∀ σ H Q, t' σ H Q → t σ H Q) : PE X a t' := ⟨fun pins s σ H Q I q => h.run pins s σ H Q I (k σ H Q q)⟩
theorem pts_less {t t' : TT} (h : PTs X ifs t) (k : ∀ σ H Q, t' σ H Q → t σ H Q) : PTs X ifs t' := ⟨fun pins s σ H Q I q => h.run pins s σ H Q I (k σ H Q q)⟩
/-- the parts of a comprehension, the same readings whatever frame it gets -/
theorem lc_parts {scope : Scope} (V0 : Vx X W)
    (ht : ∀ (s : Shared) (H : Hp) (C : Addr) (cl : List (Str × Addr)) (fp : List Addr), Vx (X.blk s H scope (compEnvC scope cl C X.env) fp) W0 → VC (X.blk s H scope (compEnvC scope cl C X.env) fp) ρ ifs ta)
    (he : ∀ (s : Shared) (H : Hp) (C : Addr) (cl : List (Str × Addr)) (fp : List Addr), Vx (X.blk s H scope (compEnvC scope cl C X.env) fp) W0 → VE (X.blk s H scope (compEnvC scope cl C X.env) fp) ρ W0 elt fa) :
    ∃ (tt : TT) (te : TE), (∀ (s : Shared) (H : Hp) (C : Addr) (cl : List (Str × Addr)) (fp : List Addr), PTs (X.blk s H scope (compEnvC scope cl C X.env) fp) ifs tt) ∧ (∀ (s : Shared) (H : Hp) (C : Addr) (cl : List (Str × Addr)) (fp : List Addr), PE (X.blk s H scope (compEnvC scope cl C X.env) fp) elt te) ∧
      ST (cc X ρ) W0 tt ta ∧ SE (cc X ρ) W0 te fa := by
  have h1 := fun s H C cl fp => ht s H C cl fp (V0.blk s H scope _ fp)
  have h2 := fun s H C cl fp => he s H C cl fp (V0.blk s H scope _ fp)
  refine ⟨fun σ H' Q => ∀ s H C cl fp, (h1 s H C cl fp).choose σ H' Q, fun σ H' Q => ∀ s H C cl fp, (h2 s H C cl fp).choose σ H' Q, fun s H C cl fp => ?_, fun s H C cl fp => ?_, ?_, ?_⟩
  · exact pts_less (h1 s H C cl fp).choose_spec.1 fun σ H' Q q => q s H C cl fp
  · exact pe_less (h2 s H C cl fp).choose_spec.1 fun σ H' Q q => q s H C cl fp
  · intro π e σ w Q m h s H C cl fp
    exact (h1 s H C cl fp).choose_spec.2 π e σ w Q m h
  · intro π e σ w Q m h s H C cl fp
    exact (h2 s H C cl fp).choose_spec.2 π e σ w Q m h
theorem ve_lc {scope : Scope} (V0 : Vx X W) (own : List (Str × Nat)) {t : TG} (hi : VI X ρ W tg iter fi) (ok : blkC X.N X.env.scope scope own = true)
    (hg : ∀ (s : Shared) (H : Hp) (C : Addr) (cl : List (Str × Addr)) (fp : List Addr), PG (X.blk s H scope (compEnvC scope cl C X.env) fp) tg t) (sg : SG (cc X ρ) [] t ft) (wg : WipeG t (own.map (·.2)))
    (ht : ∀ (s : Shared) (H : Hp) (C : Addr) (cl : List (Str × Addr)) (fp : List Addr), Vx (X.blk s H scope (compEnvC scope cl C X.env) fp) W0 → VC (X.blk s H scope (compEnvC scope cl C X.env) fp) ρ ifs ta)
    (he : ∀ (s : Shared) (H : Hp) (C : Addr) (cl : List (Str × Addr)) (fp : List Addr), Vx (X.blk s H scope (compEnvC scope cl C X.env) fp) W0 → VE (X.blk s H scope (compEnvC scope cl C X.env) fp) ρ W0 elt fa) (hs : ∀ x, foldedSetIterable iter X.env x = pure x := by intro _; rfl) :
    VE X ρ W (.ListComp elt [⟨tg, iter, ifs, 0⟩] scope pos) (fLc fi ft ta fa (own.map (·.2))) := by
  obtain ⟨wi, pi, si⟩ := hi
  obtain ⟨tt, te, p1, p2, s1, s2⟩ := lc_parts V0 ht he
  exact ⟨_, pe_lc V0.calm V0.nd pi (blkOk_by ok) hg p1 p2 hs, se_lc si sg wg s1 s2⟩
/-- name = [..], the name a local -/
theorem vs_asgLc {scope : Scope} {y : Str} {py spos : Pos} {t : TG} (V0 : Vx X W) (i : Nat) (own : List (Str × Nat)) (hi : VI X ρ W tg iter fi) (ok : blkC X.N X.env.scope scope own = true)
    (hg : ∀ (s : Shared) (H : Hp) (C : Addr) (cl : List (Str × Addr)) (fp : List Addr), PG (X.blk s H scope (compEnvC scope cl C X.env) fp) tg t) (sg : SG (cc X ρ) [] t ft) (wg : WipeG t (own.map (·.2)))
    (ht : ∀ (s : Shared) (H : Hp) (C : Addr) (cl : List (Str × Addr)) (fp : List Addr), Vx (X.blk s H scope (compEnvC scope cl C X.env) fp) W0 → VC (X.blk s H scope (compEnvC scope cl C X.env) fp) ρ ifs ta)
    (he : ∀ (s : Shared) (H : Hp) (C : Addr) (cl : List (Str × Addr)) (fp : List Addr), Vx (X.blk s H scope (compEnvC scope cl C X.env) fp) W0 → VE (X.blk s H scope (compEnvC scope cl C X.env) fp) ρ W0 elt fa)
    (hsw : swapsWith (.ListComp elt [⟨tg, iter, ifs, 0⟩] scope pos) (some (.Name y py)) spos.line X.env = pure true) (hy : X.N[i]? = some y := by rfl) (hyl : X.env.scope.names.lookup y = some .local := by rfl) (hp : i ∉ pn := by decide)
    (hs : ∀ x, foldedSetIterable iter X.env x = pure x := by intro _; rfl) :
    VS X ρ W pn (.Assign [.Name y py] (.ListComp elt [⟨tg, iter, ifs, 0⟩] scope pos) spos) (sAsg i (fLc fi ft ta fa (own.map (·.2)))) ∧
    VS X ρ W pn (.Assign [.Name y py] (.ListComp elt [⟨tg, iter, ifs, 0⟩] scope pos) spos) (sOwn i (fLc fi ft ta fa (own.map (·.2)))) := by
  obtain ⟨wi, pi, si⟩ := hi
  obtain ⟨tt, te, p1, p2, s1, s2⟩ := lc_parts V0 ht he
  have q := ps_setLc V0.calm V0.nd hy hyl hsw pi (blkOk_by ok) hg p1 p2 hs
  exact ⟨⟨_, q, ss_asg hp (se_lc si sg wg s1 s2)⟩, ⟨_, q, ss_own hp (se_lc si sg wg s1 s2)⟩⟩
/-- an own class of error, without methods, over ValueError -/
structure XC (K : PySem.W.Frag) (mg : Str → Option Value) (c : Str) : Prop where
  ex : ∃ A, mg c = some (.ref A) ∧ PySem.W.excIn K A [.type "ValueError", .type "Exception", .type "BaseException", .type "object"] "ValueError.__new__" = true ∧ PySem.W.keepIn K (.ref A) = true ∧
    PySem.W.subIn K (.ref A) (.type "BaseException") = some true ∧ PySem.W.typeIn K (.ref A) = some (.type "type")
theorem vs_raise {x m : Str} {j : Nat} {p1 p2 p3 : Pos} (V0 : Vx X W) (hx : XC X.K X.mg x) (hg : Gl X x := by rfl) (hdb : (x == ("__debug__" : Str)) = false := by decide) : VS X ρ W pn (.Raise (some (.Call (.Name x p1) [.Constant (.str m) j p2] [] p3)) none pos) (sRaise x) := by
  obtain ⟨A, h1, h2, h3, h4, h5⟩ := hx.ex
  refine ⟨_, ps_raise V0.calm V0.tk (pmk_own PySem.F.excBase_ValueError h2 h1 h3 (raises_own h4 h5) hg hdb), fun π e σ w D hp m h => ?_⟩
  exact h σ w A h1 m (.refl w)
def mask (ms : List Nat) (e : Env) (k : Nat) : Env := (List.range k).map fun j => if j ∈ ms then at? e j else none
def PostF (C : Cc) (ms : List Nat) (vs : List V) (w : WS) (r : Option FR) (Q : VK) (E : XK) : Prop := match r with
  | none => False
  | some (.ret b e) => ∀ v w', Mt C [] (mask ms e vs.length) (vs.map some) w' → Frm w w' → OOk C (vs.map some) w w' (.b b) v → Q v w'.H
  | some (.ex c e) => ∀ w' A, C.mg c = some (.ref A) → Mt C [] (mask ms e vs.length) (vs.map some) w' → Frm w w' → E (.ref A) none w'.H
/-- a def's promise: it computes F; the parameters at ms are changed -/
def spV (C : Cc) (n : Nat) (ms : List Nat) (F : Fn) : Sp := fun vs H Q E => vs.length = n ∧ ∃ (bs : List B) (w : WS), w.H = H ∧ Mt C [] (bs.map some) (vs.map some) w ∧ PostF C ms vs w (F bs) Q E
theorem at_map {bs : List B} {i : Nat} : at? (bs.map some) i = bs[i]? := by
  unfold at?
  rw [List.getElem?_map]
  cases bs[i]? <;> rfl
theorem at_app {bs : List B} {k i : Nat} {b : B} (h : at? (bs.map some ++ List.replicate k none) i = some b) : bs[i]? = some b := by
  unfold at? at h
  by_cases hi : i < bs.length
  · rw [List.getElem?_append_left (by simpa using hi), List.getElem?_map] at h
    cases q : bs[i]? with
    | none => rw [q] at h; cases h
    | some z => rw [q] at h; exact h
  · rw [List.getElem?_append_right (by simpa using hi), List.getElem?_replicate] at h
    split at h <;> (rename_i z; split at z <;> cases z) <;> cases h
theorem at_mask {ms : List Nat} {e : Env} {k i : Nat} {b : B} (h : at? (mask ms e k) i = some b) : i ∈ ms ∧ i < k ∧ at? e i = some b := by
  unfold at? mask at h
  rw [List.getElem?_map] at h
  by_cases hi : i < k
  · rw [List.getElem?_range hi] at h
    simp only [Option.map_some] at h
    by_cases hm : i ∈ ms
    · rw [if_pos hm] at h
      exact ⟨hm, hi, h⟩
    · rw [if_neg hm] at h
      cases h
  · rw [List.getElem?_eq_none (by simpa using hi)] at h
    cases h
theorem body_post {C : Cc} {π : List (Nat × V)} {ms : List Nat} {vs : List V} {w w' : WS} {e : Env} {σ' : St} (hms : ∀ j ∈ ms, ∀ v, vs[j]? = some v → (j, v) ∈ π) (m : Mt C π e σ' w') (f : Frm w w') :
    ∃ w2, Mt C [] (mask ms e vs.length) (vs.map some) w2 ∧ Frm w w2 ∧ w2.H = w'.H ∧ w2.G = w'.G ∧ ∀ i a, w2.fp i a → w'.fp i a := by
  refine ⟨{ w' with fp := fun i a => (at? (mask ms e vs.length) i).isSome = true ∧ w'.fp i a }, ⟨by unfold mask; simp, m.sub, fun i b q => ?_, fun i q a z => ?_, fun i j a x y => m.dis i j a x.2 y.2, fun p h => by cases h⟩, ⟨f.g, fun a o h n => ?_, f.t⟩, rfl, rfl, fun i a z => z.2⟩
  · obtain ⟨h1, h2, h3⟩ := at_mask q
    obtain ⟨v, g1, g2⟩ := m.bok i b h3
    have hv : vs[i]? = some vs[i] := List.getElem?_eq_getElem h2
    have hp := m.pin _ (hms i h1 _ hv)
    simp only at hp
    rw [g1] at hp
    have ev : v = vs[i] := Option.some.inj (Option.some.inj hp)
    refine ⟨v, by rw [List.getElem?_map, hv, ev]; rfl, ?_⟩
    have e1 : (fun a => (at? (mask ms e vs.length) i).isSome = true ∧ w'.fp i a) = w'.fp i := by
      funext a
      exact propext ⟨fun z => z.2, fun z => ⟨by rw [q]; rfl, z⟩⟩
    show BOk C w'.G w'.H b v (fun a => (at? (mask ms e vs.length) i).isSome = true ∧ w'.fp i a)
    rw [e1]
    exact g2
  · have z1 : (at? (mask ms e vs.length) i).isSome = true := z.1
    rw [q] at z1
    cases z1
  · obtain ⟨h1, h2, h3⟩ := f.k a o h n
    exact ⟨h1, h2, fun i z => h3 i z.2⟩
section
variable {P : Program} {w : World} {K : PySem.W.Frag} {mg : Str → Option Value} {base : Heap}
theorem fn_okV {x qual : Str} {params : Arguments} {body : List Stmt} {scope : Scope} {dvs : List V} {kws : List (Str × V)} {f : Addr} {fd : FuncData} {N ps : List Str} {k : Nat} {ρ : Nat → Res} {g : FS} (ms : List Nat) (F : FunD K x qual params body scope dvs kws f fd) (S : FnScope N ps scope) (hpn : ps.length ≤ N.length)
    (hbody : ∀ (cdv : Value) (A : Around) (outer : List PySem.Env) (s : Shared) (H : Hp) (E : XK), Room k (A.deeper (PyProof.Rows.envOfC qual scope s.heap.objs.size f cdv)) →
      Vx (cxOf (L2.CX P w) P w K mg base N qual scope f cdv A outer s H E) (fun cls d _ H => E cls d H) → VSs (cxOf (L2.CX P w) P w K mg base N qual scope f cdv A outer s H E) ρ (fun cls d _ H => E cls d H) ms body g) (hk : 1 ≤ k) :
    FnG P w K mg base (k + 1) f fd ps (spV ⟨K, mg, ρ⟩ ps.length ms (runF g N.length)) := by
  refine fnG_of F S (fun vs H Q E h => h.1) (fun cdv A outer s H vs Q E hr hgd hsm h => ?_)
  obtain ⟨hl, bs, w0, rfl, m, h⟩ := h
  have V0 : Vx (cxOf (L2.CX P w) P w K mg base N qual scope f cdv A outer s w0.H E) (fun cls d _ H => E cls d H) := ⟨rfl, hr.mono hk, hgd, hsm, S.nd, takes_of rfl rfl rfl rfl, passes_of rfl⟩
  obtain ⟨t, pt, ss⟩ := hbody cdv A outer s w0.H E hr V0
  refine ⟨t, pt, ?_⟩
  have hbl : bs.length = vs.length := by have := m.len; rwa [List.length_map, List.length_map] at this
  -- the start
  let π : List (Nat × V) := (List.range vs.length).filterMap fun j => if j ∈ ms then vs[j]?.map fun v => (j, v) else none
  have hπ : ∀ p ∈ π, p.1 ∈ ms ∧ vs[p.1]? = some p.2 := fun p hp => by
    obtain ⟨j, hj, e⟩ := List.mem_filterMap.mp hp
    split at e
    · rename_i hm
      cases q : vs[j]? with
      | none => rw [q] at e; cases e
      | some v => rw [q] at e; cases e; exact ⟨hm, q⟩
    · cases e
  have hπ2 : ∀ j ∈ ms, ∀ v, vs[j]? = some v → (j, v) ∈ π := fun j hj v hv => by
    refine List.mem_filterMap.mpr ⟨j, List.mem_range.mpr (List.getElem?_eq_some_iff.mp hv).1, ?_⟩
    rw [if_pos hj, hv]
    rfl
  have m0 : Mt ⟨K, mg, ρ⟩ π (bs.map some ++ List.replicate (N.length - bs.length) none) (L2.start N vs) w0 := by
    unfold L2.start
    refine ⟨by simp [hbl], m.sub, fun i b q => ?_, fun i q a z => ?_, m.dis, fun p hp => ?_⟩
    · have hb := at_app q
      obtain ⟨v, g1, g2⟩ := m.bok i b (by rw [at_map]; exact hb)
      refine ⟨v, ?_, g2⟩
      have hi : i < vs.length := by rw [← hbl]; exact (List.getElem?_eq_some_iff.mp hb).1
      rw [List.getElem?_append_left (by simpa using hi)]
      exact g1
    · refine m.non i ?_ a z
      rw [at_map]
      cases qb : bs[i]? with
      | none => rfl
      | some b =>
        unfold at? at q
        have hi := (List.getElem?_eq_some_iff.mp qb).1
        rw [List.getElem?_append_left (by simpa using hi), List.getElem?_map, qb] at q
        cases q
    · obtain ⟨h1, h2⟩ := hπ p hp
      have hi := (List.getElem?_eq_some_iff.mp h2).1
      rw [List.getElem?_append_left (by simpa using hi), List.getElem?_map, h2]
      rfl
  refine ss π _ _ w0 _ (fun p hp => (hπ p hp).1) m0 ?_
  unfold runF at h
  cases q : g (bs.map some ++ List.replicate (N.length - bs.length) none) with
  | none => rw [q] at h; exact h.elim
  | some x =>
    rw [q] at h
    cases x with
    | nx e =>
      intro σ' w' m' f'
      obtain ⟨w2, m2, f2, eH, eG, hl2⟩ := body_post hπ2 m' f'
      rw [← eH]
      exact h .non w2 m2 f2 (.fr .non)
    | rt b e =>
      intro v σ' w' m' f' k'
      obtain ⟨w2, m2, f2, eH, eG, hl2⟩ := body_post hπ2 m' f'
      rw [← eH]
      refine h v w2 m2 f2 ?_
      obtain ⟨fp, k1, k2⟩ := k'
      exact ⟨fp, by rw [eG, eH]; exact k1, fun a ha => ⟨(k2 a ha).1, fun i z => (k2 a ha).2 i (hl2 i a z)⟩⟩
    | bk e => exact h.elim
    | ct e => exact h.elim
    | ex c e =>
      intro σ' w' A hA m' f'
      obtain ⟨w2, m2, f2, eH, eG, hl2⟩ := body_post hπ2 m' f'
      rw [← eH]
      exact h w2 A hA m2 f2
end
end
end VL
set_option maxRecDepth 100000
namespace VL
open PySem L2
section
variable {X : Cx} {ρ : Nat → Res} {W : WX} {a b c : Expr} {es : List Expr} {pos p : Pos} {fa fb fc : FE} {as_ : FA} {C : Cc} {π : List (Nat × V)} {e e1 e2 : Env} {σ : St} {w w0 w1 w2 : WS}
theorem va_F (ha : VE X ρ W a fa) (hr : VA X ρ W es as_) (hs : starEach (a :: es) X.env = (false, eval a X.env) :: starEach es X.env := by rfl) : VA X ρ W (a :: es) (aF fa as_) := by
  obtain ⟨t, p, s⟩ := ha
  obtain ⟨t2, p2, s2⟩ := hr
  refine ⟨_, pa_cons p p2 hs, fun π e σ w Q m h => ?_⟩
  refine s π e σ w _ m (h.bnd fun o1 e1 v1 w1 m1 f1 k1 h1 => ?_)
  cases q : fzB e1 o1 with
  | none => rw [q] at h1; exact h1.elim
  | some pr =>
    rw [q] at h1
    simp only [Option.bind_some] at h1
    obtain ⟨wf, mf, ff, eH, hb⟩ := fzB_sound (e' := pr.2) m1 f1 k1 q
    rw [← eH]
    refine s2 π pr.2 σ wf _ mf ((h1.from ff).bnd fun os e3 vs w3 m3 f3 k3 h3 => ?_)
    refine h3.from f3 (v1 :: vs) w3 m3 (.refl _) (.cons ?_ (paired_base ff k3))
    exact ⟨fun _ => False, hb.mono f3.g (fun _ z => z.elim), fun _ z => z.elim⟩
theorem va_M (i : Nat) {x : Str} {px : Pos} (hr : VA X ρ W es as_) (hN : X.N[i]? = some x := by rfl) (hv : Vis X.env.scope x := by first | exact Or.inl rfl | exact Or.inr (Or.inl rfl) | exact Or.inr (Or.inr rfl)) (hd : (x == ("__debug__" : Str)) = false := by decide)
    (hcd : (x == ("__classdict__" : Str)) = false := by decide) (hs : starEach (.Name x px :: es) X.env = (false, eval (.Name x px) X.env) :: starEach es X.env := by rfl) : VA X ρ W (.Name x px :: es) (aM i as_) := by
  obtain ⟨t2, p2, s2⟩ := hr
  refine ⟨_, pa_cons (pe_var hN hv hd hcd) p2 hs, fun π e σ w Q m h => ?_⟩
  unfold aM at h
  cases q : at? e i with
  | none => rw [q] at h; exact h.elim
  | some bb =>
    rw [q] at h
    obtain ⟨v, h1, h2⟩ := m.bok i bb q
    refine ⟨v, h1, ?_⟩
    refine s2 π e σ w _ m (Post.bnd (rel' := fun w' os vs => Paired (OOk (cc X ρ) σ w w') os vs) h fun os e3 vs w3 m3 f3 k3 h3 => ?_)
    exact h3.from f3 (v :: vs) w3 m3 (.refl _) (.cons h1 k3)
theorem va_P (ha : VE X ρ W a fa) (hr : VA X ρ W es as_) (hs : starEach (a :: es) X.env = (false, eval a X.env) :: starEach es X.env := by rfl) : VA X ρ W (a :: es) (aP fa as_) := by
  obtain ⟨t, p, s⟩ := ha
  obtain ⟨t2, p2, s2⟩ := hr
  refine ⟨_, pa_cons p p2 hs, fun π e σ w Q m h => ?_⟩
  refine s π e σ w _ m (h.bnd fun o1 e1 v1 w1 m1 f1 k1 h1 => ?_)
  cases o1 with
  | s i =>
    refine s2 π e1 σ w1 _ m1 ((h1.from f1).bnd fun os e3 vs w3 m3 f3 k3 h3 => ?_)
    exact h3.from f3 (v1 :: vs) w3 m3 (.refl _) (.cons k1 (paired_base f1 k3))
  | b bb =>
    simp only at h1
    cases q : fzB e1 (.b bb) with
    | none => rw [q] at h1; exact h1.elim
    | some pr =>
      rw [q] at h1
      simp only [Option.bind_some] at h1
      obtain ⟨wf, mf, ff, eH, hb⟩ := fzB_sound (e' := pr.2) m1 f1 k1 q
      rw [← eH]
      refine s2 π pr.2 σ wf _ mf ((h1.from ff).bnd fun os e3 vs w3 m3 f3 k3 h3 => ?_)
      refine h3.from f3 (v1 :: vs) w3 m3 (.refl _) (.cons ?_ (paired_base ff k3))
      exact ⟨fun _ => False, hb.mono f3.g (fun _ z => z.elim), fun _ z => z.elim⟩
/-- a def that may be called -/
structure Cal (X : Cx) (ρ : Nat → Res) (x : Str) (n : Nat) (ms : List Nat) (F : Fn) (k : Nat) : Prop where
  ex : ∃ f fd ps, FnG X.prog X.w X.K X.mg X.base k f fd ps (spV (cc X ρ) n ms F) ∧ X.mg x = some (.ref f) ∧ PySem.W.keepIn X.K (.ref f) = true ∧ Binds X.K fd ps []
/-- what is owned by a slot that is not lent has no owner among the others -/
theorem paired_get {α β : Type} {R : α → β → Prop} : ∀ {as : List α} {bs : List β} {i : Nat} {x : α}, Paired R as bs → as[i]? = some x → ∃ y, bs[i]? = some y ∧ R x y
  | _, _, _, _, .nil, e => by simp at e
  | _, _, 0, _, .cons r _, e => by simp at e; subst e; exact ⟨_, rfl, r⟩
  | _, _, i + 1, x, .cons _ t, e => by
    obtain ⟨y, h1, h2⟩ := paired_get (i := i) (x := x) t (by simpa using e)
    exact ⟨y, by simpa using h1, h2⟩
theorem paired_length {α β : Type} {R : α → β → Prop} : ∀ {as : List α} {bs : List β}, Paired R as bs → as.length = bs.length
  | _, _, .nil => rfl
  | _, _, .cons _ t => by simp [paired_length t]
theorem bindO_get {e : Env} : ∀ {os : List O} {bs : List B}, bindO e os = some bs → bs.length = os.length ∧ ∀ (j : Nat) (o : O), os[j]? = some o → match o with
    | .b x => bs[j]? = some x
    | .s i => ∃ x, at? e i = some x ∧ bs[j]? = some x
  | [], bs, h => by cases h; exact ⟨rfl, fun j o hj => by simp at hj⟩
  | .b x :: os, bs, h => by
    unfold bindO at h
    cases q : bindO e os with
    | none => rw [q] at h; cases h
    | some cs =>
      rw [q] at h
      cases h
      obtain ⟨h1, h2⟩ := bindO_get q
      refine ⟨by simp [h1], fun j o hj => ?_⟩
      cases j with
      | zero => simp at hj; subst hj; rfl
      | succ j =>
        have := h2 j o (by simpa using hj)
        cases o with
        | b y => simpa using this
        | s i => obtain ⟨y, g1, g2⟩ := this; exact ⟨y, g1, by simpa using g2⟩
  | .s i :: os, bs, h => by
    unfold bindO at h
    cases qa : at? e i with
    | none => rw [qa] at h; cases h
    | some x =>
      rw [qa] at h
      cases q : bindO e os with
      | none => rw [q] at h; cases h
      | some cs =>
        rw [q] at h
        cases h
        obtain ⟨h1, h2⟩ := bindO_get q
        refine ⟨by simp [h1], fun j o hj => ?_⟩
        cases j with
        | zero => simp at hj; subst hj; exact ⟨x, qa, rfl⟩
        | succ j =>
          have := h2 j o (by simpa using hj)
          cases o with
          | b y => simpa using this
          | s i => obtain ⟨y, g1, g2⟩ := this; exact ⟨y, g1, by simpa using g2⟩
theorem putBack_length : ∀ (mi : List (Nat × Nat)) (e : Env), (putBack e2 mi e).length = e.length
  | [], e => rfl
  | (j, i) :: r, e => by
    show (putBack e2 r (e.set i (at? e2 j))).length = e.length
    rw [putBack_length r, List.length_set]
theorem putBack_out : ∀ {mi : List (Nat × Nat)} {e : Env} {i : Nat}, (∀ j, (j, i) ∉ mi) → at? (putBack e2 mi e) i = at? e i
  | [], e, i, h => rfl
  | (j0, i0) :: r, e, i, h => by
    show at? (putBack e2 r (e.set i0 (at? e2 j0))) i = at? e i
    rw [putBack_out fun j hj => h j (List.mem_cons_of_mem _ hj)]
    exact at_set_ne fun z => h j0 (by rw [z]; exact List.mem_cons_self)
theorem putBack_in : ∀ {mi : List (Nat × Nat)} {e : Env} {i j : Nat}, (mi.map (·.2)).Nodup → (j, i) ∈ mi → i < e.length → at? (putBack e2 mi e) i = at? e2 j
  | (j0, i0) :: r, e, i, j, nd, h, hi => by
    show at? (putBack e2 r (e.set i0 (at? e2 j0))) i = at? e2 j
    rw [List.map_cons, List.nodup_cons] at nd
    rcases List.mem_cons.mp h with q | q
    · cases q
      rw [putBack_out fun k hk => nd.1 (List.mem_map.mpr ⟨(k, i0), hk, rfl⟩)]
      exact at_set_lt hi
    · exact putBack_in nd.2 q (by rw [List.length_set]; exact hi)
theorem at_lt {e : Env} {i : Nat} {b : B} (h : at? e i = some b) : i < e.length := by
  unfold at? at h
  cases q : e[i]? with
  | none => rw [q] at h; cases h
  | some y => exact (List.getElem?_eq_some_iff.mp q).1
def SlOk (mi : List (Nat × Nat)) (k : Nat) : O → Prop
  | .s i => (k, i) ∈ mi
  | .b x => ∀ (C : Cc) (G H : Hp) (v : V) (fp : Addr → Prop), BOk C G H x v fp → ∀ a, ¬ fp a
theorem slotsOk_s {mi : List (Nat × Nat)} : ∀ {os : List O} {k : Nat}, slotsOk mi k os = true → ∀ (j : Nat) (o : O), os[j]? = some o → SlOk mi (k + j) o
  | [], k, h, j, o, hj => by simp at hj
  | .s i :: os, k, h, j, o, hj => by
    unfold slotsOk at h
    rw [Bool.and_eq_true] at h
    cases j with
    | zero => simp at hj; subst hj; exact (of_decide_eq_true h.1 : (k, i) ∈ mi)
    | succ j =>
      have := slotsOk_s h.2 j o (by simpa using hj)
      rwa [show k + (j + 1) = k + 1 + j from by omega]
  | .b x :: os, k, h, j, o, hj => by
    unfold slotsOk at h
    rw [Bool.and_eq_true] at h
    cases j with
    | zero =>
      simp at hj
      subst hj
      intro C G H v fp hb
      cases x with
      | fr d => exact hb.2
      | ex d => exact hb.2
      | sc d => exact hb.2
      | ow d => exact absurd h.1 (by simp)
      | od d => exact absurd h.1 (by simp)
      | rs n d => exact absurd h.1 (by simp)
      | tr t => exact absurd h.1 (by simp)
    | succ j =>
      have := slotsOk_s h.2 j o (by simpa using hj)
      rwa [show k + (j + 1) = k + 1 + j from by omega]
theorem BOk.noFp {x : B} {G H : Hp} {v : V} {fp : Addr → Prop} (h : BOk C G H x v fp) (n : ∀ a, ¬ fp a) : BOk C G H x v fun _ => False := by
  have e1 : fp = fun _ => False := by funext a; exact propext ⟨fun z => n a z, fun z => z.elim⟩
  rw [← e1]; exact h
/-- the world as the callee has it -/
def WS.lend (w : WS) (mi : List (Nat × Nat)) : WS := { w with fp := fun j a => ∃ i, (j, i) ∈ mi ∧ w.fp i a }
/-- and behind the call -/
def WS.back (w w' : WS) (mi : List (Nat × Nat)) : WS := { w' with fp := fun i a => (∃ j, (j, i) ∈ mi ∧ w'.fp j a) ∨ ((∀ j, (j, i) ∉ mi) ∧ w.fp i a) }
theorem miOk_at {mi : List (Nat × Nat)} {os : List O} (h : miOk mi os = true) {j i : Nat} (hm : (j, i) ∈ mi) : os[j]? = some (.s i) := by
  have z := List.all_eq_true.mp h _ hm
  split at z
  · rename_i i' q
    rw [q]
    have := beq_iff_eq.mp z
    rw [this]
  · cases z
theorem lend_mt {mi : List (Nat × Nat)} {os : List O} {bs : List B} {vs : List V} (m : Mt C π e σ w) (n2 : (mi.map (·.2)).Nodup) (hs : slotsOk mi 0 os = true) (hmi : miOk mi os = true) (hb : bindO e os = some bs) (r : Paired (OOk C σ w0 w) os vs) :
    Mt C [] (bs.map some) (vs.map some) (w.lend mi) := by
  obtain ⟨hl, hg⟩ := bindO_get hb
  have hl2 := paired_length r
  have pos : ∀ {j i}, (j, i) ∈ mi → os[j]? = some (.s i) := fun h => miOk_at hmi h
  have uniq : ∀ {j i i'}, (j, i) ∈ mi → (j, i') ∈ mi → i = i' := fun {j i i'} h h' => by
    have h1 := pos h
    rw [pos h'] at h1
    cases h1
    rfl
  have uniq2 : ∀ {j j' i}, (j, i) ∈ mi → (j', i) ∈ mi → j = j' := fun {j j' i} h h' => by
    have go : ∀ l : List (Nat × Nat), (l.map (·.2)).Nodup → (j, i) ∈ l → (j', i) ∈ l → j = j' := by
      intro l
      induction l with
      | nil => intro _ h; cases h
      | cons p l ih =>
        intro nd h h'
        rw [List.map_cons, List.nodup_cons] at nd
        rcases List.mem_cons.mp h with q | q
        · rcases List.mem_cons.mp h' with q' | q'
          · rw [← q] at q'; cases q'; rfl
          · exact absurd (List.mem_map.mpr ⟨_, q', by rw [← q]⟩) nd.1
        · rcases List.mem_cons.mp h' with q' | q'
          · exact absurd (List.mem_map.mpr ⟨_, q, by rw [← q']⟩) nd.1
          · exact ih nd.2 q q'
    exact go mi n2 h h'
  refine ⟨by rw [List.length_map, List.length_map, hl, hl2], m.sub, fun j b q => ?_, fun j q a z => ?_, fun j j' a x y => ?_, fun p h => by cases h⟩
  · rw [at_map] at q
    have hj : j < os.length := by rw [← hl]; exact (List.getElem?_eq_some_iff.mp q).1
    have ho : os[j]? = some os[j] := List.getElem?_eq_getElem hj
    obtain ⟨v, hv, ov⟩ := paired_get r ho
    refine ⟨v, by rw [List.getElem?_map, hv]; rfl, ?_⟩
    have g := hg j _ ho
    have s := slotsOk_s hs j _ ho
    cases qo : os[j] with
    | b x =>
      rw [qo] at g s ov
      simp only at g
      rw [q] at g
      cases g
      obtain ⟨fp, b1, b2⟩ := ov
      have b3 := b1.noFp (s _ _ _ _ _ b1)
      have e1 : (w.lend mi).fp j = fun _ => False := by
        funext a
        refine propext ⟨fun z => ?_, fun z => z.elim⟩
        obtain ⟨i, hi, _⟩ := z
        have h1 := pos hi
        rw [ho, qo] at h1
        cases h1
      rw [e1]
      exact b3
    | s i =>
      rw [qo] at g s ov
      simp only [Nat.zero_add] at g s
      have s : (j, i) ∈ mi := s
      obtain ⟨x, g1, g2⟩ := g
      rw [q] at g2
      cases g2
      obtain ⟨u, b1, b2⟩ := m.bok i b g1
      have ov' : σ[i]? = some (some v) := ov
      rw [ov'] at b1
      cases b1
      have e1 : (w.lend mi).fp j = w.fp i := by
        funext a
        exact propext ⟨fun ⟨i', h1, h2⟩ => by rw [uniq s h1]; exact h2, fun z => ⟨i, s, z⟩⟩
      rw [e1]
      exact b2
  · rw [at_map] at q
    obtain ⟨i, hi, hz⟩ := z
    have h1 := pos hi
    rw [List.getElem?_eq_none_iff, hl] at q
    rw [List.getElem?_eq_none q] at h1
    cases h1
  · obtain ⟨i, h1, h2⟩ := x
    obtain ⟨i', h3, h4⟩ := y
    have := m.dis i i' a h2 h4
    subst this
    exact uniq2 h1 h3
theorem back_mt {mi : List (Nat × Nat)} {os : List O} {vs : List V} {w' : WS} {k : Nat} (m : Mt C π e σ w) (n2 : (mi.map (·.2)).Nodup) (hmi : miOk mi os = true) (r : Paired (OOk C σ w0 w) os vs) (f : Frm (w.lend mi) w')
    (m' : Mt C [] (mask (mi.map (·.1)) e2 k) (vs.map some) w') (hk : k = vs.length) : Mt C π (putBack e2 mi e) σ (w.back w' mi) ∧ Frm w (w.back w' mi) := by
  have pos : ∀ {j i}, (j, i) ∈ mi → os[j]? = some (.s i) := fun h => miOk_at hmi h
  have notLent : ∀ {i a}, (∀ j, (j, i) ∉ mi) → w.fp i a → (∃ o, w.H a = some o ∧ w.G a = none) ∧ ∀ j, ¬ (w.lend mi).fp j a := fun {i a} h1 h2 => by
    obtain ⟨h3, o, h4⟩ := m.own h2
    refine ⟨⟨o, h4, h3⟩, fun j ⟨i', h5, h6⟩ => ?_⟩
    have := m.dis i i' a h2 h6
    subst this
    exact h1 j h5
  have kept : ∀ {i a}, (∀ j, (j, i) ∉ mi) → w.fp i a → w'.H a = w.H a ∧ w'.G a = w.G a ∧ ∀ j, ¬ w'.fp j a := fun {i a} h1 h2 => by
    obtain ⟨⟨o, h3, h4⟩, h5⟩ := notLent h1 h2
    obtain ⟨g1, g2, g3⟩ := f.k a o h3 h5
    exact ⟨g1.trans h3.symm, g2, g3⟩
  have uniq2 : ∀ {j j' i}, (j, i) ∈ mi → (j', i) ∈ mi → j = j' := fun {j j' i} h h' => by
    have go : ∀ l : List (Nat × Nat), (l.map (·.2)).Nodup → (j, i) ∈ l → (j', i) ∈ l → j = j' := by
      intro l
      induction l with
      | nil => intro _ h; cases h
      | cons p l ih =>
        intro nd h h'
        rw [List.map_cons, List.nodup_cons] at nd
        rcases List.mem_cons.mp h with q | q
        · rcases List.mem_cons.mp h' with q' | q'
          · rw [← q] at q'; cases q'; rfl
          · exact absurd (List.mem_map.mpr ⟨_, q', by rw [← q]⟩) nd.1
        · rcases List.mem_cons.mp h' with q' | q'
          · exact absurd (List.mem_map.mpr ⟨_, q, by rw [← q']⟩) nd.1
          · exact ih nd.2 q q'
    exact go mi n2 h h'
  have uniq : ∀ {j i i'}, (j, i) ∈ mi → (j, i') ∈ mi → i = i' := fun {j i i'} h h' => by
    have h1 := pos h
    rw [pos h'] at h1
    cases h1
    rfl
  refine ⟨⟨by rw [putBack_length]; exact m.len, m'.sub, fun i b q => ?_, fun i q a z => ?_, fun i i' a x y => ?_, m.pin⟩, ⟨f.g, fun a o h n => ?_, f.t⟩⟩
  · by_cases hm : ∃ j, (j, i) ∈ mi
    · obtain ⟨j, hj⟩ := hm
      have ho := pos hj
      obtain ⟨v, hv, ov⟩ := paired_get r ho
      have hi : i < e.length := by rw [← putBack_length (e2 := e2) mi e]; exact at_lt q
      rw [putBack_in n2 hj hi] at q
      have hjv := (List.getElem?_eq_some_iff.mp hv).1
      have q2 : at? (mask (mi.map (·.1)) e2 k) j = some b := by
        unfold mask
        unfold at?
        rw [List.getElem?_map, List.getElem?_range (by rw [hk]; exact hjv)]
        simp only [Option.map_some]
        rw [if_pos (List.mem_map.mpr ⟨(j, i), hj, rfl⟩)]
        exact q
      obtain ⟨u, g1, g2⟩ := m'.bok j b q2
      rw [List.getElem?_map, hv] at g1
      have ev : v = u := Option.some.inj (Option.some.inj g1)
      subst ev
      have ov' : σ[i]? = some (some v) := ov
      refine ⟨v, ov', ?_⟩
      have e1 : (w.back w' mi).fp i = w'.fp j := by
        funext a
        refine propext ⟨fun z => ?_, fun z => .inl ⟨j, hj, z⟩⟩
        rcases z with ⟨j', h1, h2⟩ | ⟨h1, _⟩
        · rw [uniq2 hj h1]; exact h2
        · exact absurd hj (h1 j)
      rw [e1]
      exact g2
    · have hn : ∀ j, (j, i) ∉ mi := fun j hj => hm ⟨j, hj⟩
      rw [putBack_out hn] at q
      obtain ⟨v, g1, g2⟩ := m.bok i b q
      refine ⟨v, g1, ?_⟩
      have e1 : (w.back w' mi).fp i = w.fp i := by
        funext a
        refine propext ⟨fun z => ?_, fun z => .inr ⟨hn, z⟩⟩
        rcases z with ⟨j', h1, h2⟩ | ⟨h1, h2⟩
        · exact absurd h1 (hn j')
        · exact h2
      rw [e1]
      exact g2.mono f.g fun a ha => ⟨(kept hn ha).1, (kept hn ha).2.1⟩
  · rcases z with ⟨j, h1, h2⟩ | ⟨h1, h2⟩
    · by_cases hi : i < e.length
      · rw [putBack_in n2 h1 hi] at q
        refine m'.non j ?_ a h2
        unfold mask
        unfold at?
        by_cases hjk : j < k
        · rw [List.getElem?_map, List.getElem?_range hjk]
          simp only [Option.map_some]
          rw [if_pos (List.mem_map.mpr ⟨(j, i), h1, rfl⟩)]
          exact q
        · rw [List.getElem?_eq_none (by simpa using hjk)]
      · -- no such slot
        obtain ⟨v, hv, ov⟩ := paired_get r (pos h1)
        have ov' : σ[i]? = some (some v) := ov
        have := (List.getElem?_eq_some_iff.mp ov').1
        rw [← m.len] at this
        exact absurd this hi
    · rw [putBack_out h1] at q
      exact m.non i q a h2
  · rcases x with ⟨j, h1, h2⟩ | ⟨h1, h2⟩
    · rcases y with ⟨j', h3, h4⟩ | ⟨h3, h4⟩
      · have := m'.dis j j' a h2 h4
        subst this
        exact uniq h1 h3
      · exact absurd h2 ((kept h3 h4).2.2 j)
    · rcases y with ⟨j', h3, h4⟩ | ⟨h3, h4⟩
      · exact absurd h4 ((kept h1 h2).2.2 j')
      · exact m.dis i i' a h2 h4
  · have hn : ∀ j, ¬ (w.lend mi).fp j a := fun j ⟨i, _, z⟩ => n i z
    obtain ⟨h1, h2, h3⟩ := f.k a o h hn
    refine ⟨h1, h2, fun i z => ?_⟩
    rcases z with ⟨j, _, z⟩ | ⟨_, z⟩
    · exact h3 j z
    · exact n i z
theorem ve_call {x : Str} {n k : Nat} {mi : List (Nat × Nat)} {F : Fn} (V0 : Vx X W) (c : Cal X ρ x n (mi.map (·.1)) F k) (hr : Room k X.A) (ha : VA X ρ W (a :: es) as_) (n2 : (mi.map (·.2)).Nodup := by decide) (hg : Gl X x := by rfl)
    (hdb : (x == ("__debug__" : Str)) = false := by decide) (he : starEach (a :: es) X.env = (false, eval a X.env) :: starEach es X.env := by rfl) (hpl : (backTo pos (starEach es X.env)).any (·.1) = false := by rfl) :
    VE X ρ W (.Call (.Name x p) (a :: es) [] pos) (fCall F n mi as_) := by
  obtain ⟨f, fd, ps, FO, gm, gk, gb⟩ := c.ex
  obtain ⟨t, pa, s⟩ := ha
  refine ⟨_, pe_callG FO hr V0.gd V0.sm hg gm gk gb (fun σ => passAt V0.tk σ) pa hdb he hpl, fun π e σ w Q m h => ?_⟩
  refine s π e σ w _ m (h.bnd fun os e1 vs w1 m1 f1 k1 h1 => ?_)
  have h2 := h1.from f1
  split at h2
  case isFalse => exact h2.elim
  case isTrue hok =>
    rw [Bool.and_eq_true, Bool.and_eq_true] at hok
    obtain ⟨hok, hlen⟩ := hok
    have hlen := beq_iff_eq.mp hlen
    cases qb : bindO e1 os with
    | none => rw [qb] at h2; exact h2.elim
    | some bs =>
      rw [qb] at h2
      simp only [Option.bind_some] at h2
      refine ⟨?_, bs, w1.lend mi, rfl, lend_mt m1 n2 hok.1 hok.2 qb k1, ?_⟩
      · rw [← paired_length k1]; exact hlen
      · cases qF : F bs with
        | none => rw [qF] at h2; exact h2.elim
        | some r =>
          rw [qF] at h2
          cases r with
          | ret b e2 =>
            intro v w' m' f' k'
            obtain ⟨g1, g2⟩ := back_mt m1 n2 hok.2 k1 f' m' rfl
            refine h2 v (w1.back w' mi) g1 g2 ?_
            obtain ⟨fp, b1, b2⟩ := k'
            refine ⟨fp, b1, fun a ha => ⟨f1.back ?_, fun i z => ?_⟩⟩
            · rcases (b2 a ha).1 with q | ⟨j, i, q1, q2⟩
              · exact .inl q
              · exact .inr ⟨i, q2⟩
            · rcases z with ⟨j, _, z⟩ | ⟨hn, z⟩
              · exact (b2 a ha).2 j z
              · obtain ⟨_, o, ho⟩ := m1.own z
                rcases (b2 a ha).1 with q | ⟨j, i', q1, q2⟩
                · have q' : w1.H a = none := q
                  rw [ho] at q'; cases q'
                · have := m1.dis i i' a z q2
                  subst this
                  exact hn j q1
          | ex c e2 =>
            intro w' A hA m' f'
            obtain ⟨g1, g2⟩ := back_mt m1 n2 hok.2 k1 f' m' rfl
            exact h2 (w1.back w' mi) A hA g1 g2
/-- the world in which what the arguments' slots own is frozen -/
noncomputable def WS.lent (w : WS) (os : List O) : WS := by
  classical
  exact { G := fun a => if ∃ i, O.s i ∈ os ∧ w.fp i a then w.H a else w.G a, H := w.H, fp := fun _ _ => False }
theorem lent_G (m : Mt C π e σ w) {os : List O} : Same w.G (w.lent os).G := fun a o h => by
  classical
  show (if ∃ i, O.s i ∈ os ∧ w.fp i a then w.H a else w.G a) = some o
  by_cases z : ∃ i, O.s i ∈ os ∧ w.fp i a
  · obtain ⟨i, _, z⟩ := z
    obtain ⟨h1, _⟩ := m.own z
    rw [h] at h1; cases h1
  · rw [if_neg z]; exact h
theorem lent_sub (m : Mt C π e σ w) {os : List O} : Same (w.lent os).G w.H := fun a o h => by
  classical
  have h' : (if ∃ i, O.s i ∈ os ∧ w.fp i a then w.H a else w.G a) = some o := h
  by_cases z : ∃ i, O.s i ∈ os ∧ w.fp i a
  · rw [if_pos z] at h'; exact h'
  · rw [if_neg z] at h'; exact m.sub a o h'
theorem lent_at {os : List O} {i : Nat} {a : Addr} (h : O.s i ∈ os) (h2 : w.fp i a) : (w.lent os).G a = w.H a := by
  classical
  show (if ∃ i, O.s i ∈ os ∧ w.fp i a then w.H a else w.G a) = w.H a
  rw [if_pos ⟨i, h, h2⟩]
theorem lent_bok (m : Mt C π e σ w) {os : List O} {i : Nat} {x y : B} {v : V} (h : O.s i ∈ os) (hx : BOk C w.G w.H x v (w.fp i)) (hy : lent x = some y) : BOk C (w.lent os).G w.H y v fun _ => False := by
  have g := lent_G (os := os) m
  cases x with
  | fr d => cases hy; exact ⟨hx.1.mono g, fun _ z => z⟩
  | ow ds =>
    cases hy
    obtain ⟨p, xs, rfl, h1, h2, h3, h4⟩ := hx
    have e1 := lent_at (os := os) h ((h4 p).mpr rfl)
    exact ⟨.lst (e1.trans h2) (h3.mono g), fun _ z => z⟩
  | od ds =>
    cases hy
    obtain ⟨p, xs, rfl, h1, h2, h3, h5, h4⟩ := hx
    have e1 := lent_at (os := os) h ((h4 p).mpr rfl)
    exact ⟨.dic (e1.trans h2) h3 (h5.mono g), fun _ z => z⟩
  | ex c =>
    cases hy
    obtain ⟨⟨p, A, h1, h2, h3⟩, _⟩ := hx
    exact ⟨⟨p, A, h1, h2, g _ _ h3⟩, fun _ z => z⟩
  | sc ns =>
    cases hy
    obtain ⟨⟨p, h1, h2⟩, _⟩ := hx
    exact ⟨⟨p, h1, g.seq h2⟩, fun _ z => z⟩
  | rs n d => cases hy
  | tr t =>
    have hy' : (t.dat.map B.fr) = some y := hy
    cases qd : t.dat with
    | none => rw [qd] at hy'; cases hy'
    | some d =>
      rw [qd] at hy'
      cases hy'
      obtain ⟨as, g1, g2, g3⟩ := hx
      exact ⟨g1.rp g (fun a ha => lent_at (os := os) h ((g3 a).mpr ha)) qd, fun _ z => z⟩
theorem lent_mt (m : Mt C π e σ w) {os' : List O} : ∀ {os : List O} {bs : List B} {vs : List V}, (∀ o ∈ os, o ∈ os') → flatO os = true → lendO e os = some bs → Paired (OOk C σ w0 w) os vs →
    bs.length = vs.length ∧ ∀ (j : Nat) (b : B), bs[j]? = some b → ∃ v, vs[j]? = some v ∧ BOk C (w.lent os').G w.H b v fun _ => False
  | [], bs, _, _, _, h, .nil => by cases h; exact ⟨rfl, fun j b q => by simp at q⟩
  | .b x :: os, bs, v :: vs, hs, hf, h, .cons r t => by
    unfold lendO at h
    unfold flatO at hf
    rw [Bool.and_eq_true] at hf
    cases q : lendO e os with
    | none => rw [q] at h; cases h
    | some cs =>
      rw [q] at h
      cases h
      obtain ⟨h1, h2⟩ := lent_mt m (fun o ho => hs o (List.mem_cons_of_mem _ ho)) hf.2 q t
      refine ⟨by simp [h1], fun j b qb => ?_⟩
      cases j with
      | zero =>
        simp at qb
        subst qb
        refine ⟨v, rfl, ?_⟩
        obtain ⟨fp, b1, b2⟩ := r
        have b3 : BOk C w.G w.H x v fun _ => False := by
          cases x with
          | fr d => exact ⟨b1.1, fun _ z => z⟩
          | ex d => exact ⟨b1.1, fun _ z => z⟩
          | sc d => exact ⟨b1.1, fun _ z => z⟩
          | ow d => exact absurd hf.1 (by simp)
          | od d => exact absurd hf.1 (by simp)
          | rs n d => exact absurd hf.1 (by simp)
          | tr t => exact absurd hf.1 (by simp)
        exact b3.mono (lent_G m) (fun _ z => z.elim)
      | succ j => exact h2 j b (by simpa using qb)
  | .s i :: os, bs, v :: vs, hs, hf, h, .cons r t => by
    unfold lendO at h
    cases qa : (at? e i).bind lent with
    | none => rw [qa] at h; cases h
    | some y =>
      rw [qa] at h
      cases q : lendO e os with
      | none => rw [q] at h; cases h
      | some cs =>
        rw [q] at h
        cases h
        obtain ⟨h1, h2⟩ := lent_mt m (fun o ho => hs o (List.mem_cons_of_mem _ ho)) (by unfold flatO at hf; exact hf) q t
        refine ⟨by simp [h1], fun j b qb => ?_⟩
        cases j with
        | zero =>
          simp at qb
          subst qb
          refine ⟨v, rfl, ?_⟩
          cases qx : at? e i with
          | none => rw [qx] at qa; cases qa
          | some x =>
            rw [qx] at qa
            obtain ⟨u, g1, g2⟩ := m.bok i x qx
            have r' : σ[i]? = some (some v) := r
            rw [r'] at g1
            cases g1
            exact lent_bok m (hs _ List.mem_cons_self) g2 qa
        | succ j => exact h2 j b (by simpa using qb)
theorem flat_rp {K : PySem.W.Frag} {G G' : Hp} {v : V} {d : PyData} (h : Rp K G v d) (hf : isFlat d = true) : Rp K G' v d := by
  cases h with
  | non => exact .non
  | bl b => exact .bl b
  | int i => exact .int i
  | str x => exact .str x
  | lst _ _ => cases hf
  | tup _ _ => cases hf
  | dic _ _ _ => cases hf
theorem ve_callP {x : Str} {n k : Nat} {F : Fn} (V0 : Vx X W) (c : Cal X ρ x n [] F k) (hr : Room k X.A) (ha : VA X ρ W (a :: es) as_) (hg : Gl X x := by rfl)
    (hdb : (x == ("__debug__" : Str)) = false := by decide) (he : starEach (a :: es) X.env = (false, eval a X.env) :: starEach es X.env := by rfl) (hpl : (backTo pos (starEach es X.env)).any (·.1) = false := by rfl) :
    VE X ρ W (.Call (.Name x p) (a :: es) [] pos) (fCallP F n as_) := by
  obtain ⟨f, fd, ps, FO, gm, gk, gb⟩ := c.ex
  obtain ⟨t, pa, s⟩ := ha
  refine ⟨_, pe_callG FO hr V0.gd V0.sm hg gm gk gb (fun σ => passAt V0.tk σ) pa hdb he hpl, fun π e σ w Q m h => ?_⟩
  refine s π e σ w _ m (h.bnd fun os e1 vs w1 m1 f1 k1 h1 => ?_)
  have h2 := h1.from f1
  split at h2
  case isFalse => exact h2.elim
  case isTrue hfo =>
  cases qb : lendO e1 os with
  | none => rw [qb] at h2; exact h2.elim
  | some bs =>
    rw [qb] at h2
    simp only [Option.bind_some] at h2
    split at h2
    case isFalse => exact h2.elim
    case isTrue hn =>
      obtain ⟨hl, hb⟩ := lent_mt (os' := os) m1 (fun o ho => ho) hfo qb k1
      have mc : Mt (cc X ρ) [] (bs.map some) (vs.map some) (w1.lent os) := ⟨by simp [hl], lent_sub m1, fun i b q => by
        rw [at_map] at q
        obtain ⟨v, g1, g2⟩ := hb i b q
        exact ⟨v, by rw [List.getElem?_map, g1]; rfl, g2⟩, fun i q a z => z, fun i j a z _ => z.elim, fun p h => by cases h⟩
      refine ⟨hl.symm.trans hn, bs, w1.lent os, rfl, mc, ?_⟩
      -- behind it: all owned as before
      have back : ∀ {w' : WS}, Frm (w1.lent os) w' → Mt (cc X ρ) π e1 σ { G := w1.G, H := w'.H, fp := w1.fp } ∧ Frm w1 { G := w1.G, H := w'.H, fp := w1.fp } := fun {w'} f' => by
        have keep : ∀ a o, w1.H a = some o → w'.H a = some o := fun a o h => (f'.k a o h fun _ z => z).1
        refine ⟨⟨m1.len, fun a o q => keep a o (m1.sub a o q), fun i b q => ?_, m1.non, m1.dis, m1.pin⟩, ⟨Same.refl _, fun a o h n => ⟨keep a o h, rfl, n⟩, f'.t⟩⟩
        obtain ⟨v, g1, g2⟩ := m1.bok i b q
        refine ⟨v, g1, g2.mono (Same.refl _) fun a ha => ⟨?_, rfl⟩⟩
        obtain ⟨_, o, ho⟩ := g2.own a ha
        exact (keep a o ho).trans ho.symm
      split at h2
      · rename_i d e2 qF
        rw [qF]
        split at h2
        · rename_i hfl
          intro v w' m' f' k'
          obtain ⟨g1, g2⟩ := back f'
          obtain ⟨fp, b1, b2⟩ := k'
          exact h2 v { G := w1.G, H := w'.H, fp := w1.fp } g1 g2 (.fr (flat_rp b1.1 hfl))
        · exact h2.elim
      · rename_i cc_ e2 qF
        rw [qF]
        intro w' A hA m' f'
        obtain ⟨g1, g2⟩ := back f'
        exact h2 { G := w1.G, H := w'.H, fp := w1.fp } A hA g1 g2
      · exact h2.elim
end
end VL
set_option maxRecDepth 100000
namespace VL
open PySem L2
section
variable {X : Cx} {ρ : Nat → Res} {W : WX} {pn : List Nat} {a b c o : Expr} {es : List Expr} {pos p apos cpos : Pos} {fa fb fc fx fv fy : FE} {fd : FD} {as_ : FA} {C : Cc} {π : List (Nat × V)} {e e1 e2 : Env} {σ : St} {w w0 w1 w2 : WS}
/-- the list of a name changed -/
theorem Mt.mut {i : Nat} {ds ds' : List PyData} (m : Mt C π e σ w) (h : at? e i = some (.ow ds)) : ∃ p xs, σ[i]? = some (some (.ref p)) ∧ w.H p = some (.lst xs) ∧ w.G p = none ∧ RpAll C.K w.G xs ds ∧
    ∀ xs', RpAll C.K w.G xs' ds' → Mt C π (e.set i (some (.ow ds'))) σ { w with H := upd w.H p (.lst xs') } ∧ Frm w { w with H := upd w.H p (.lst xs') } := by
  obtain ⟨v, h1, h2⟩ := m.bok i _ h
  obtain ⟨p, xs, rfl, g1, g2, g3, g4⟩ := h2
  refine ⟨p, xs, h1, g2, g1, g3, fun xs' r => ⟨⟨by rw [List.length_set]; exact m.len, fun a o q => ?_, fun j b q => ?_, fun j q a z => ?_, m.dis, m.pin⟩, ⟨Same.refl _, fun a o q n => ⟨?_, rfl, n⟩, fun a q => ?_⟩⟩⟩
  · show upd w.H p (.lst xs') a = some o
    rw [upd_ne (ne_of_none q g1)]
    exact m.sub a o q
  · by_cases hj : i = j
    · subst hj
      rw [at_set_same h] at q
      cases q
      exact ⟨.ref p, h1, p, xs', rfl, g1, upd_same, r, g4⟩
    · rw [at_set_ne hj] at q
      obtain ⟨u, k1, k2⟩ := m.bok j b q
      refine ⟨u, k1, k2.mono (Same.refl _) fun a ha => ⟨upd_ne fun z => ?_, rfl⟩⟩
      subst z
      exact hj (m.dis i j a ((g4 a).mpr rfl) ha)
  · by_cases hj : i = j
    · subst hj
      rw [at_set_same h] at q
      cases q
    · rw [at_set_ne hj] at q
      exact m.non j q a z
  · show upd w.H p (.lst xs') a = some o
    rw [upd_ne fun z => n i (by rw [z]; exact (g4 p).mpr rfl)]
    exact q
  · by_cases z : a = p
    · rw [z] at q
      have q' : upd w.H p (.lst xs') p = none := q
      rw [upd_same] at q'
      cases q'
    · have q' : upd w.H p (.lst xs') a = none := q
      rw [upd_ne z] at q'
      exact q'
/-- a method that changes its list -/
def MthV (X : Cx) (id : String) (g : List PyData → List PyData → Option (B × List PyData)) : Prop := ∃ r, MtR X id r ∧
  ∀ (G H : Hp) (p : Addr) (xs vs : List V) (ds as : List PyData) (b : B) (ds' : List PyData) (Q : VK), H p = some (.lst xs) → Same G H → G p = none → RpAll X.K G xs ds → RpAll X.K G vs as → g ds as = some (b, ds') →
    (∀ v d xs', b = .fr d → Rp X.K G v d → RpAll X.K G xs' ds' → Q v (upd H p (.lst xs'))) → r (.ref p) vs H Q
theorem se_mth {r : V → List V → Hp → VK → Prop} {g : List PyData → List PyData → Option (B × List PyData)} {i : Nat} {t : TA} (hr : ∀ (G H : Hp) (p : Addr) (xs vs : List V) (ds as : List PyData) (b : B) (ds' : List PyData) (Q : VK), H p = some (.lst xs) → Same G H → G p = none → RpAll C.K G xs ds → RpAll C.K G vs as → g ds as = some (b, ds') →
    (∀ v d xs', b = .fr d → Rp C.K G v d → RpAll C.K G xs' ds' → Q v (upd H p (.lst xs'))) → r (.ref p) vs H Q) (s : SD C W t fd) : SE C W (tBM C.K "list" r (tVar i) t) (fMth i g fd) := fun π e σ w Q m h => by
  unfold fMth at h
  split at h
  case h_2 => exact h.elim
  case h_1 dd q =>
    obtain ⟨v0, h1, h2⟩ := m.bok i _ q
    refine ⟨v0, h1, ?_⟩
    have h3 : Post C W π σ w (bnd (fd e) fun as e1 => match at? e1 i with
      | some (.ow ds) => (g ds as).bind fun p => some (.ok (O.b p.1) (e1.set i (some (.ow p.2))))
      | _ => none) (OOk C σ w) Q := h
    -- what the name holds is a list of its own, ahead too
    have hty : tyV C.K "list" v0 w.H := by
      obtain ⟨p, xs, rfl, _, g2, _⟩ := h2
      exact .inl ⟨rfl, xs, .of g2⟩
    refine ⟨hty, s π e σ w _ m (h3.bnd fun as e1 vs w1 m1 f1 k1 h4 => ?_)⟩
    have h5 := h4.from f1
    split at h5
    · rename_i ds q1
      cases qg : g ds as with
      | none => rw [qg] at h5; exact h5.elim
      | some pr =>
        rw [qg] at h5
        obtain ⟨b, ds'⟩ := pr
        simp only [Option.bind_some] at h5
        obtain ⟨p, xs, g1, g2, g3, g4, g5⟩ := m1.mut (ds' := ds') q1
        rw [h1] at g1
        cases g1
        refine hr w1.G w1.H p xs vs ds as b ds' Q g2 m1.sub g3 g4 k1 qg fun v d xs' eb rv rx => ?_
        subst eb
        obtain ⟨m2, f2⟩ := g5 xs' rx
        exact h5 v _ m2 f2 (.fr rv)
    · exact h5.elim
theorem ve_mth {name : Str} {id : String} {y : Str} {g : List PyData → List PyData → Option (B × List PyData)} {py : Pos} (hm : MthV X id g) (i : Nat) (slot : Slot "list" name id) (hty : typeOf (.builtin id) = pure (.type "method_descriptor")) (ha : VD X ρ W (a :: es) fd)
    (hN : X.N[i]? = some y := by rfl) (hv : Vis X.env.scope y := by first | exact Or.inl rfl | exact Or.inr (Or.inl rfl) | exact Or.inr (Or.inr rfl)) (hd : (y == ("__debug__" : Str)) = false := by decide) (hcd : (y == ("__classdict__" : Str)) = false := by decide)
    (hbase : attributeBase (.Name y py) name X.env (eval (.Name y py) X.env) = eval (.Name y py) X.env := by rfl)
    (hfew : ((backTo cpos (starEach (a :: es) X.env)).all (fun x => !x.1) && (backToKw cpos (keywordEach [] X.env)).all (fun x => x.1.isSome)
      && decide ((a :: es).length + ([] : List Keyword).length + (if ([] : List Keyword).isEmpty then 0 else 1) < 30)) = true := by rfl)
    (hline : (apos.endLine == cpos.line) = true := by rfl) (hs : starEach (a :: es) X.env = (false, eval a X.env) :: starEach es X.env := by rfl) (hplain : (backTo cpos (starEach es X.env)).any (·.1) = false := by rfl) :
    VE X ρ W (.Call (.Attribute (.Name y py) name apos) (a :: es) [] cpos) (fMth i g fd) := by
  obtain ⟨r, h1, h2⟩ := hm
  obtain ⟨t, pa, s⟩ := ha
  exact ⟨_, pe_bm PySem.F.plainAttrs_list slot hty h1 (pe_var hN hv hd hcd) pa hbase hfew hline hs hplain, se_mth h2 s⟩
theorem lt_big {n : Nat} (h : n < big) : n < sizeLine := Nat.lt_of_lt_of_le h big_le
theorem v_append : MthV X "list.append" mAppend := by
  refine ⟨_, mt_append, fun G H p xs vs ds as b ds' Q hp s hG rx rv hg k => ?_⟩
  unfold mAppend at hg
  split at hg
  · split at hg
    · rename_i d hb
      cases hg
      cases rv with
      | cons r1 r2 =>
        cases r2
        exact ⟨p, xs, _, rfl, rfl, hp, by rw [rx.length]; exact lt_big hb, k .non .none _ rfl .non (rx.append (.cons r1 .nil))⟩
    · cases hg
  · cases hg
theorem RpAll.dropLast {K : PySem.W.Frag} {G : Hp} {vs : List V} {ds : List PyData} (h : RpAll K G vs ds) : RpAll K G vs.dropLast ds.dropLast := by
  rw [List.dropLast_eq_take, List.dropLast_eq_take, h.length]
  exact h.take _
end
end VL
set_option maxRecDepth 100000
namespace VL
open PySem L2
section
variable {X : Cx} {ρ : Nat → Res} {W : WX} {pn : List Nat} {a b c o tg : Expr} {es : List Expr} {pos p apos cpos : Pos} {fa fb fc fx fv fy : FE} {fd : FD} {ft : FG} {as_ : FA} {C : Cc} {π : List (Nat × V)} {e e1 e2 : Env} {σ : St} {w w0 w1 w2 : WS}
theorem bndS_bnd {α β : Type} {r : Option (Out α)} {F : α → Env → Option (Out β)} {kk : β → Env → Option SO} : bndS (bnd r F) kk = bndS r fun a e => bndS (F a e) kk := by
  cases r with
  | none => rfl
  | some x => cases x <;> rfl
theorem put_sound {ti : TE} {i : Nat} {d : PyData} {x : V} {D : Ends} {kk : Unit → Env → Option SO} {Qt : St → Hp → Prop} (s : SE C W ti fx) (m : Mt C π e σ w) (r : Rp C.K w.G x d) (h : PostS C W π w (bndS (putAt i fx d e) kk) D)
    (hk : ∀ e2 w2, Mt C π e2 σ w2 → Frm w w2 → PostS C W π w2 (kk () e2) D → Qt σ w2.H) : gSub (tVar i) ti rSetL x σ w.H Qt := by
  unfold putAt at h
  cases q : at? e i with
  | none => rw [q] at h; exact h.elim
  | some b =>
    rw [q] at h
    obtain ⟨v, h1, h2⟩ := m.bok i b q
    refine ⟨v, h1, ?_⟩
    have h' : PostS C W π w (bndS (bnd (fx e) fun o e1 => match res e1 o, at? e1 i with
      | some (.int k), some (.ow ds) => (ixN ds.length k).bind fun j => some (.ok () (e1.set i (some (.ow (ds.set j d)))))
      | _, _ => none) kk) D := h
    rw [bndS_bnd] at h'
    refine s π e σ w _ m (h'.bnd fun o1 e1 v1 w1 m1 f1 k1 h3 => ?_)
    split at h3
    · rename_i k ds q1 q2
      cases qj : ixN ds.length k with
      | none => rw [qj] at h3; exact h3.elim
      | some j =>
        rw [qj] at h3
        simp only [Option.bind_some] at h3
        obtain ⟨p, xs, g1, g2, g3, g4, g5⟩ := m1.mut (ds' := ds.set j d) q2
        rw [h1] at g1
        cases g1
        have rk := res_sound m1 k1 q1
        cases rk
        obtain ⟨m2, f2⟩ := g5 (xs.set j x) (RpAll.set (r.mono f1.g) j g4)
        exact ⟨p, xs, k, j, rfl, rfl, g2, by rw [g4.length]; exact qj, hk _ _ m2 (f1.trans f2) (h3.from (f1.trans f2))⟩
    · exact h3.elim
theorem ss_put {te ti : TE} {i : Nat} (sv : SE C W te fv) (sx : SE C W ti fx) : SS C W pn (tAsg te (gSub (tVar i) ti rSetL)) (sPut i fx fv) := fun π e σ w D hp m h => by
  refine sv π e σ w _ m (h.bnd fun o1 e1 v1 w1 m1 f1 k1 h1 => ?_)
  cases q : fz e1 o1 with
  | none => rw [q] at h1; exact h1.elim
  | some pr =>
    rw [q] at h1
    obtain ⟨w2, m2, f2, eH, rp⟩ := fz_sound (e' := pr.2) m1 f1 k1 q
    rw [← eH]
    exact put_sound sx m2 rp (h1.from f2) fun e3 w3 m3 f3 h3 => h3 σ w3 m3 (.refl _)
theorem vs_put {x : Str} {py ps : Pos} (i : Nat) (hx : VE X ρ W b fx) (hv : VE X ρ W a fv) (hN : X.N[i]? = some x := by rfl) (hvs : Vis X.env.scope x := by first | exact Or.inl rfl | exact Or.inr (Or.inl rfl) | exact Or.inr (Or.inr rfl)) (hd : (x == ("__debug__" : Str)) = false := by decide)
    (hcd : (x == ("__classdict__" : Str)) = false := by decide) (hs : swapsWithSole [.Subscript (.Name x py) b ps] a pos.line X.env = pure false := by rfl) (hw : swappedStores [.Subscript (.Name x py) b ps] a X.env = pure none := by rfl)
    (h1 : (assignEach [.Subscript (.Name x py) b ps] X.env).map (·.2) = [assign (.Subscript (.Name x py) b ps) X.env] := by rfl)
    (ha : ∀ v, assign (.Subscript (.Name x py) b ps) X.env v = (do
      let ov ← holding [v] (eval (.Name x py) X.env)
      let iv ← holding [v, ov] (eval b X.env)
      standAt ps
      holding [v, ov, iv] (setItem ov iv v)
      release [v, ov, iv] []) := by intro _; rfl) : VS X ρ W pn (.Assign [.Subscript (.Name x py) b ps] a pos) (sPut i fx fv) := by
  obtain ⟨t, p, s⟩ := hx
  obtain ⟨t2, p2, s2⟩ := hv
  exact ⟨_, ps_asg p2 (pg_sub (pe_var hN hvs hd hcd) p set_list ha) hs hw h1, ss_put s2 s⟩
def IpV (X : Cx) (op : Operator) (g : PyData → PyData → Option B) : Prop := ∃ r, PIp X op r ∧ ∀ (G H : Hp) x y dx dy z (Q : VK), Rq X.K G H x dx → Rq X.K G H y dy → g dx dy = some z → (∀ v d, z = .fr d → Rp X.K G v d → Q v H) → r x y H Q
theorem i_add : IpV X .Add (opI0 fun i j => i + j) := by
  refine ⟨_, ip_add, fun G H x y dx dy z Q hx hy hz k => ?_⟩
  unfold opI0 at hz
  split at hz
  · cases hz
    cases hx
    cases hy
    exact ⟨_, _, rfl, rfl, k _ _ rfl (.int _)⟩
  · cases hz
theorem get_list : PGet X (rIxL X.K) := by
  intro pins s σ H x y v u Q I rx ry h
  obtain ⟨p, xs, i, z, rfl, rfl, hq, he, q⟩ := h
  cases rx
  obtain ⟨t, rfl⟩ := ry
  obtain ⟨its, r, pl, hz⟩ := I.list hq
  obtain ⟨j, h1, h2, h3, h4, h5⟩ := atI_get he
  obtain ⟨w, ew, rw'⟩ := r.get h2
  have hl := r.length
  have hn := line63
  have fin : EP X pins σ Q w s := ⟨z, H, I, rw', q⟩
  by_cases h0 : 0 ≤ i
  · have hj : i.toNat = j := by
      rw [seqIndex_of h0 h5] at h1
      exact Option.some.inj h1
    exact wpAny_getItem_list pl.isList h0 (by omega) (by rw [hj]; simpa using ew) fin
  · have hj : (i + (its.toArray.size : Int)).toNat = j := by
      rw [seqIndex_neg (by omega) h4] at h1
      rw [List.size_toArray, ← hl]
      exact Option.some.inj h1
    exact wpAny_getItem_list_neg pl.isList (by omega) (by rw [List.size_toArray] <;> omega) (by omega) (by rw [hj]; simpa using ew) fin
theorem vs_augAt {op : Operator} {g : PyData → PyData → Option B} {x : Str} {py ps : Pos} (V0 : Vx X W) (i : Nat) (ho : IpV X op g) (hx : VE X ρ W b fx) (hv : VE X ρ W a fv) (hN : X.N[i]? = some x := by rfl) (hvs : Vis X.env.scope x := by first | exact Or.inl rfl | exact Or.inr (Or.inl rfl) | exact Or.inr (Or.inr rfl)) (hd : (x == ("__debug__" : Str)) = false := by decide)
    (hcd : (x == ("__classdict__" : Str)) = false := by decide) (ha : ∀ ov iv new, augStore b ov iv new = (do holding [new, ov, iv] (setItem ov iv new); release [new, ov, iv] []; pure .next) := by intros; rfl) :
    VS X ρ W pn (.AugAssign (.Subscript (.Name x py) b ps) op a pos) (sAugAt i g fx fv) := by
  obtain ⟨r, h1, h2⟩ := ho
  obtain ⟨t, p, s⟩ := hx
  obtain ⟨t2, p2, s2⟩ := hv
  refine ⟨_, ps_augS (pe_var hN hvs hd hcd) p get_list p2 h1 set_list ha, fun π e σ w D hpi m h => ?_⟩
  unfold sAugAt at h
  split at h
  · exact h.elim
  rename_i b0 q0
  obtain ⟨v0, g1, g2⟩ := m.bok i _ q0
  refine ⟨v0, g1, s π e σ w _ m (h.bnd fun o1 e1 v1 w1 m1 f1 k1 h3 => ?_)⟩
  split at h3
  case h_2 => exact h3.elim
  rename_i k ds q1 q2
  cases qj : ixN ds.length k with
  | none => rw [qj] at h3; exact h3.elim
  | some j =>
    cases qo : ds[j]? with
    | none => rw [qj] at h3; simp only [Option.bind_some, qo] at h3; exact h3.elim
    | some old =>
      rw [qj] at h3
      simp only [Option.bind_some, qo] at h3
      obtain ⟨p, xs, l1, l2, l3, l4, _⟩ := m1.mut (ds' := ds) q2
      rw [g1] at l1
      cases l1
      have rk := res_sound m1 k1 q1
      cases rk
      obtain ⟨vo, ho1, ho2⟩ := l4.get qo
      refine ⟨p, xs, k, vo, rfl, rfl, .of l2, by unfold atI; rw [l4.length, qj]; exact ho1, ?_⟩
      refine s2 π e1 σ w1 _ m1 ((h3.from f1).bnd fun o2 e2 v2 w2 m2 f2 k2 h4 => ?_)
      split at h4
      case h_2 => exact h4.elim
      rename_i d ds2 q3 q4
      cases q5 : g old d with
      | none => rw [q5] at h4; exact h4.elim
      | some z =>
        rw [q5] at h4
        simp only [Option.bind_some] at h4
        refine h2 w2.G w2.H vo v2 old d _ _ ((ho2.mono f2.g).rq m2.sub) (res_sound m2 k2 q3) q5 fun v d' ez rv => ?_
        subst ez
        dsimp only at h4
        cases q6 : ixN ds2.length k with
        | none => rw [q6] at h4; exact h4.elim
        | some j2 =>
          rw [q6] at h4
          obtain ⟨p', xs', n1, n2, n3, n4, n5⟩ := m2.mut (ds' := ds2.set j2 d') q4
          rw [g1] at n1
          cases n1
          obtain ⟨m3, f3⟩ := n5 (xs'.set j2 v) (RpAll.set rv j2 n4)
          exact ⟨_, xs', k, j2, rfl, rfl, n2, by rw [n4.length]; exact q6, h4 σ _ m3 (f2.trans f3)⟩
end
end VL
set_option maxRecDepth 100000
namespace VL
open PySem L2
/-- the built-in types that are asked for -/
inductive Ty where
  | int | bool | str | list | tuple | dict
def Ty.nm : Ty → String
  | .int => "int" | .bool => "bool" | .str => "str" | .list => "list" | .tuple => "tuple" | .dict => "dict"
def tyN : PyData → String
  | .none => "NoneType"
  | .bool _ => "bool"
  | .int _ => "int"
  | .str _ => "str"
  | .list _ => "list"
  | .tuple _ => "tuple"
  | .dict _ => "dict"
def isD : Ty → PyData → Bool
  | .int, .int _ => true
  | .int, .bool _ => true
  | .bool, .bool _ => true
  | .str, .str _ => true
  | .list, .list _ => true
  | .tuple, .tuple _ => true
  | .dict, .dict _ => true
  | _, _ => false
def fIsi (T : Ty) (fa : FE) : FE := fun e => bnd (fa e) fun o e1 => (res e1 o).bind fun d => okD (.bool (isD T d)) e1
theorem kit_is (T : Ty) : ∀ d, kitB (tyN d) T.nm = some (isD T d) := by
  have h : ∀ T : Ty, kitB "NoneType" T.nm = some false ∧ kitB "bool" T.nm = some (isD T (.bool true)) ∧ kitB "int" T.nm = some (isD T (.int 0)) ∧ kitB "str" T.nm = some (isD T (.str "")) ∧ kitB "list" T.nm = some (isD T (.list [])) ∧ kitB "tuple" T.nm = some (isD T (.tuple [])) ∧ kitB "dict" T.nm = some (isD T (.dict [])) := by
    intro T
    cases T <;> decide +kernel
  obtain ⟨h1, h2, h3, h4, h5, h6, h7⟩ := h T
  intro d
  cases d with
  | none => exact h1.trans (by cases T <;> rfl)
  | bool b => exact h2.trans (by cases T <;> rfl)
  | int b => exact h3.trans (by cases T <;> rfl)
  | str b => exact h4.trans (by cases T <;> rfl)
  | list b => exact h5.trans (by cases T <;> rfl)
  | tuple b => exact h6.trans (by cases T <;> rfl)
  | dict b => exact h7.trans (by cases T <;> rfl)
section
variable {X : Cx} {ρ : Nat → Res} {W : WX} {pn : List Nat} {a b c o tg : Expr} {es : List Expr} {pos p p2 apos cpos : Pos} {fa fb fc fx fv fy : FE} {fd : FD} {ft : FG} {as_ : FA} {C : Cc} {π : List (Nat × V)} {e e1 e2 : Env} {σ : St} {w w0 w1 w2 : WS}
theorem Rq.ty {K : PySem.W.Frag} {G H : Hp} {v : V} {d : PyData} (r : Rq K G H v d) (s : Same G H) : TyX K H v (.type (tyN d)) := by
  cases d with
  | none => cases r; exact .base .non
  | bool b => cases r; exact .base (.bl b)
  | int b => cases r; exact .base (.int b)
  | str b => cases r; exact .base (.str b)
  | list b => obtain ⟨a, xs, rfl, h, _⟩ := r; exact .base (.lst h)
  | tuple b => obtain ⟨a, xs, rfl, h, _⟩ := r; exact .base (.tup (s _ _ h))
  | dict b => obtain ⟨a, xs, rfl, h, _⟩ := r; exact .base (.dK h)
theorem ve_isi (T : Ty) {x : Str} (ha : VE X ρ W a fa) (hm : X.mg "isinstance" = none) (hmx : X.mg x = none) (hv : bootBuiltins x = some (.type T.nm)) (hg : Gl X "isinstance" := by rfl) (hgx : Gl X x := by rfl) (hn : x ≠ "__name__" := by decide) (hdb : (x == ("__debug__" : Str)) = false := by decide)
    (he : starEach (a :: [.Name x p2]) X.env = (false, eval a X.env) :: starEach [.Name x p2] X.env := by rfl) (he2 : starEach (.Name x p2 :: []) X.env = (false, eval (.Name x p2) X.env) :: starEach [] X.env := by rfl) (hpl : (backTo pos (starEach [.Name x p2] X.env)).any (·.1) = false := by rfl) :
    VE X ρ W (.Call (.Name "isinstance" p) [a, .Name x p2] [] pos) (fIsi T fa) := by
  obtain ⟨t, pa, s⟩ := ha
  refine ⟨_, pe_callB call_isi hg hm PyProof.Rows.boot_isinstance (pa_cons pa (pa_cons (pe_bltn hgx hmx hv (v := .ty T.nm) rfl hn hdb) pa_nil he2) he) (by decide) (by decide) he hpl, fun π e σ w Q m h => ?_⟩
  refine s π e σ w _ m (h.bnd fun o1 e1 v1 w1 m1 f1 k1 h1 => ?_)
  have h3 := h1.from f1
  cases q1 : res e1 o1 with
  | none => rw [q1] at h3; exact h3.elim
  | some d1 =>
    rw [q1] at h3
    simp only [Option.bind_some] at h3
    exact ⟨v1, .ty T.nm, .type (tyN d1), .type T.nm, isD T d1, rfl, .ty _, (res_sound m1 k1 q1).ty m1.sub, kit_ty (kit_is T d1), h3 _ w1 m1 (.refl _) (.fr (.bl _))⟩
def bOf (e : Env) : O → Option B
  | .s i => at? e i
  | .b b => some b
theorem bOf_sound {o : O} {v : V} {b : B} (m : Mt C π e σ w) (h : OOk C σ w0 w o v) (hr : bOf e o = some b) : ∃ fp, BOk C w.G w.H b v fp := by
  cases o with
  | s i =>
    have hv : σ[i]? = some (some v) := h
    obtain ⟨u, h1, h2⟩ := m.bok i b hr
    rw [hv] at h1
    cases h1
    exact ⟨_, h2⟩
  | b b' =>
    cases hr
    obtain ⟨fp, h1, h2⟩ := h
    exact ⟨fp, h1⟩
def fScLen (fa : FE) : FE := fun e => bnd (fa e) fun o e1 => match bOf e1 o with
  | some (.sc ns) => okD (.int ns.length) e1
  | _ => none
def fScIx (fa fb : FE) : FE := fun e => bnd (fa e) fun o e1 => bnd (fb e1) fun o2 e2 => match bOf e2 o, res e2 o2 with
  | some (.sc ns), some (.int i) => (atI ns i).bind fun n => okD (.int n) e2
  | _, _ => none
def fScSl (fa : FE) (fl fh : FO) : FE := fun e => bnd (fa e) fun o e1 => bnd (fl e1) fun l e2 => bnd (fh e2) fun h e3 => match bOf e3 o with
  | some (.sc ns) => some (.ok (.b (.ow ((cutD ns l h).map .int))) e3)
  | _ => none
theorem ve_scSl {lo hi : Option Expr} {fl fh : FO} {p2 : Pos} (ha : VE X ρ W a fa) (hl : VO X ρ W lo fl) (hh : VO X ρ W hi fh) : VE X ρ W (.Subscript a (.Slice lo hi none p2) pos) (fScSl fa fl fh) := by
  obtain ⟨t, p, s⟩ := ha
  obtain ⟨t1, p1, s1⟩ := hl
  obtain ⟨t2, p2', s2⟩ := hh
  refine ⟨_, pe_slice sl_list p p1 p2', fun π e σ w Q m h => ?_⟩
  refine s π e σ w _ m (h.bnd fun o1 e1 v1 w1 m1 f1 k1 h1 => ?_)
  refine s1 π e1 σ w1 _ m1 ((h1.from f1).bnd fun l e2 l' w2 m2 f2 k2 h2 => ?_)
  subst k2
  refine s2 π e2 σ w2 _ m2 ((h2.from f2).bnd fun u e3 u' w3 m3 f3 k3 h3 => ?_)
  subst k3
  have h4 := h3.from f3
  split at h4
  · rename_i ns q1
    obtain ⟨fp, ⟨p, rfl, hq⟩, _⟩ := bOf_sound m3 ((k1.step f2).step f3) q1
    refine ⟨p, _, rfl, m3.sub.seq hq, fun r hr => ?_⟩
    have e1 : cutV (ns.map V.int) l u = (cutD ns l u).map V.int := by
      unfold cutD cutV
      rw [List.length_map, ← List.map_drop, ← List.map_take]
    rw [e1]
    obtain ⟨m5, f5, k5⟩ := mk_lst (es := (cutD ns l u).map .int) m3 hr (rp_ints _)
    exact h4 _ _ m5 f5 (k5.base ((f1.trans f2).trans f3))
  · exact h4.elim
end
end VL
set_option maxRecDepth 100000
namespace VL
open PySem L2
theorem b_len : bootBuiltins "len" = some (.builtin "len") := by decide +kernel
theorem b_max : bootBuiltins "max" = some (.builtin "max") := by decide +kernel
theorem b_min : bootBuiltins "min" = some (.builtin "min") := by decide +kernel
theorem b_sum : bootBuiltins "sum" = some (.builtin "sum") := by decide +kernel
theorem b_abs : bootBuiltins "abs" = some (.builtin "abs") := by decide +kernel
theorem b_int : bootBuiltins "int" = some (.type "int") := by decide +kernel
theorem b_bool : bootBuiltins "bool" = some (.type "bool") := by decide +kernel
theorem b_str : bootBuiltins "str" = some (.type "str") := by decide +kernel
theorem b_tuple : bootBuiltins "tuple" = some (.type "tuple") := by decide +kernel
theorem sg_t2 {C : Cc} {pn : List Nat} {i j : Nat} (hp : i ∉ pn) (hq : j ∉ pn) : SG C pn (gTup C.K 2 (gCons (gName i) (gCons (gName j) gNil))) (gT2 i j) := fun π e σ w d z e' Q hpi m r hg h => by
  unfold gT2 at hg
  split at hg
  · cases hg
    obtain ⟨q, xs, rfl, g1, g2⟩ := rp_tup r
    cases g2 with
    | cons r1 g3 =>
      cases g3 with
      | cons r2 g4 =>
        cases g4
        obtain ⟨w1, m1, f1, eH1, eG1⟩ := bind_fr m (fun p hq (z : p.1 = i) => hp (z ▸ hpi p hq)) r1
        obtain ⟨w2, m2, f2, eH2, _⟩ := bind_fr m1 (fun p hq' (z : p.1 = j) => hq (z ▸ hpi p hq')) (by rw [eG1]; exact r2)
        refine ⟨q, _, rfl, .of (m.sub _ _ g1), rfl, _, _, rfl, _, _, rfl, rfl, ?_⟩
        rw [← eH1, ← eH2]
        exact h _ w2 m2 (f1.trans f2) (eH2.trans eH1)
  · cases hg
section
variable {X : Cx} {ρ : Nat → Res} {W : WX} {pos : Pos}
/-- a number of the module -/
theorem ve_gint {x : Str} {i : Int} (hm : ∃ t, X.mg x = some (.int i t)) (hg : Gl X x := by rfl) (hd : (x == ("__debug__" : Str)) = false := by decide) : VE X ρ W (.Name x pos) (fC (.int i)) := by
  obtain ⟨t, h⟩ := hm
  exact ve_glob h (v := .int i) ⟨t, rfl⟩ (fun _ => .int i) hg hd
end
section
variable {P : Program} {w : World} {K : PySem.W.Frag} {mg : Str → Option Value} {base : Heap} {ρ : Nat → Res}
/-- the module's def x computes F; the parameters at ms are changed -/
structure CalK (P : Program) (w : World) (K : PySem.W.Frag) (mg : Str → Option Value) (base : Heap) (ρ : Nat → Res) (x : Str) (n : Nat) (ms : List Nat) (F : Fn) (k : Nat) : Prop where
  ex : ∃ f fd ps, FnG P w K mg base k f fd ps (spV ⟨K, mg, ρ⟩ n ms F) ∧ mg x = some (.ref f) ∧ PySem.W.keepIn K (.ref f) = true ∧ Binds K fd ps []
theorem CalK.c {X : Cx} {x : Str} {n : Nat} {ms : List Nat} {F : Fn} {k : Nat} (c : CalK X.prog X.w X.K X.mg X.base ρ x n ms F k) : Cal X ρ x n ms F k := ⟨c.ex⟩
theorem cal_mk {x qual : Str} {params : Arguments} {body : List Stmt} {scope : Scope} {f : Addr} {fd : FuncData} {N ps : List Str} {k : Nat} {g : FS} (ms : List Nat) (F : FunD K x qual params body scope [] [] f fd) (gm : mg x = some (.ref f)) (S : FnScope N ps scope) (hpn : ps.length ≤ N.length)
    (hb : ∀ (kV doc pm : Value) (an : Option Addr) (cdv ct : Value) (us : List Value), us.length = ps.length → bindArgs (PySem.W.fnOf x qual params body scope .none kV doc pm an cdv ct) ⟨us, []⟩ = pure (ps.zip us))
    (hbody : ∀ (cdv : Value) (A : Around) (outer : List PySem.Env) (s : Shared) (H : Hp) (E : XK), Room k (A.deeper (PyProof.Rows.envOfC qual scope s.heap.objs.size f cdv)) →
      Vx (cxOf (L2.CX P w) P w K mg base N qual scope f cdv A outer s H E) (fun cls d _ H => E cls d H) → VSs (cxOf (L2.CX P w) P w K mg base N qual scope f cdv A outer s H E) ρ (fun cls d _ H => E cls d H) ms body g) (hk : 1 ≤ k) :
    CalK P w K mg base ρ x ps.length ms (runF g N.length) (k + 1) := ⟨f, fd, ps, fn_okV ms F S hpn hbody hk, gm, F.kp, F.bindsN hb⟩
theorem xc_ok {h : Heap} {x : Str} (KX : K.In h) (G : h.Ns mainGlobals mg) (c : (He.Fa.exc x).ok K = true) (g : (He.Fa.glo x).ok K = true) : XC K mg x := by
  obtain ⟨h1, h2, h3, h4⟩ := He.exc_ok c
  exact ⟨_, He.glo_ok KX G g, h1, h2, h3, h4⟩
/-- nothing -/
def R0 : Res := ⟨fun _ _ _ _ _ _ => False, fun h _ _ => h.elim, fun h => h.elim⟩
theorem fn_mkV {x qual : Str} {params : Arguments} {body : List Stmt} {scope : Scope} {f : Addr} {fd : FuncData} {N ps : List Str} {k : Nat} {g : FS} (ms : List Nat) (F : FunD K x qual params body scope [] [] f fd) (S : FnScope N ps scope) (hpn : ps.length ≤ N.length)
    (hbody : ∀ (cdv : Value) (A : Around) (outer : List PySem.Env) (s : Shared) (H : Hp) (E : XK), Room k (A.deeper (PyProof.Rows.envOfC qual scope s.heap.objs.size f cdv)) →
      Vx (cxOf (L2.CX P w) P w K mg base N qual scope f cdv A outer s H E) (fun cls d _ H => E cls d H) → VSs (cxOf (L2.CX P w) P w K mg base N qual scope f cdv A outer s H E) ρ (fun cls d _ H => E cls d H) ms body g) (hk : 1 ≤ k) :
    FnG P w K mg base (k + 1) f fd ps (spV ⟨K, mg, ρ⟩ ps.length ms (runF g N.length)) := fn_okV ms F S hpn hbody hk
/-- the law's answer -/
theorem law_end {F : Fn} {a : Addr} {ns : List Int} {H : Hp} (hS : SqL K H a (ns.map V.int)) (hF : ∃ e, F [.sc ns] = some (.ret (.fr (.bool true)) e)) : spV ⟨K, mg, ρ⟩ 1 [] F [.ref a] H (fun v _ => v = .bl true) (fun _ _ _ => False) := by
  obtain ⟨e, hF⟩ := hF
  refine ⟨rfl, [.sc ns], ⟨H, H, fun _ _ => False⟩, rfl, ⟨rfl, Same.refl _, fun i b q => ?_, fun i q a z => z, fun i j a z _ => z.elim, fun p h => by cases h⟩, ?_⟩
  · match i, q with
    | 0, q =>
      cases q
      exact ⟨_, rfl, ⟨a, rfl, hS⟩, fun _ z => z⟩
    | i + 1, q => exact absurd q (by unfold at?; simp)
  · unfold PostF
    rw [hF]
    intro v w' m f k
    obtain ⟨fp, k1, k2⟩ := k
    cases k1.1
    rfl
end
end VL
set_option maxRecDepth 100000
namespace VL
open PySem L2
abbrev Pl := Int × Int × Int
def encP (p : Pl) : PyData := .list [.int p.1, .int p.2.1, .int p.2.2]
def v3 (p : Pl) : List V := [.int p.1, .int p.2.1, .int p.2.2]
end VL
set_option maxRecDepth 100000
namespace VL
open PySem L2
def sNewP (i : Nat) : FS := fun e => some (.nx (e.set i (some (.rs 1 (.list [])))))
def sAppP (i : Nat) (fd : FD) : FS := fun e => match at? e i with
  | some (.rs 1 _) => bndS (fd e) fun ds e1 => match ds, at? e1 i with
    | [.int a, .int b, .int c], some (.rs 1 (.list l)) => if l.length < big then some (.nx (e1.set i (some (.rs 1 (.list (l ++ [encP (a, b, c)])))))) else none
    | _, _ => none
  | _ => none
def fDeck (i : Nat) : FE := fun e => match at? e i with
  | some (.rs 1 (.list l)) => some (.ok (.b (.rs 0 (.list [.list l, .int 0]))) (e.set i none))
  | _ => none
end VL
set_option maxRecDepth 100000
namespace VL
open PySem L2
def rgOk (i j : Int) : Bool := decide (i.natAbs < 2 ^ 62) && decide (j.natAbs < 2 ^ 62) && decide ((j - i).toNat ≤ big)
def fListRg1 (fa : FE) : FE := fun e => bnd (fa e) fun o e1 => match res e1 o with
  | some (.int j) => if rgOk 0 j = true then some (.ok (.b (.ow (rngN 0 j.toNat))) e1) else none
  | _ => none
section
variable {X : Cx} {ρ : Nat → Res} {W : WX} {a b : Expr} {pos p p2 p3 : Pos} {fa fb : FE}
theorem rp_rng {K : PySem.W.Frag} {G : Hp} {lo : Int} {n : Nat} : RpAll K G ((List.range n).map fun i => V.int (lo + (i : Nat))) (rngN lo n) := by
  unfold rngN
  generalize List.range n = l
  induction l with
  | nil => exact .nil
  | cons x l ih => exact .cons (.int _) ih
theorem rg_ok {i j : Int} (h : rgOk i j = true) : RgOk i j := by
  unfold rgOk at h
  rw [Bool.and_eq_true, Bool.and_eq_true, decide_eq_true_eq, decide_eq_true_eq, decide_eq_true_eq] at h
  exact ⟨by omega, by omega, by omega, by omega, Nat.le_trans h.2 (by decide)⟩
theorem ve_listRg1 (hc : X.calm = true) (hm : X.mg "list" = none) (hr : X.mg "range" = none) (ha : VE X ρ W a fa) (hg : Gl X "list" := by rfl) (hg2 : Gl X "range" := by rfl) (na : starEach [a] X.env = (false, eval a X.env) :: starEach [] X.env := by rfl)
    (na2 : starEach [.Call (.Name "range" p2) [a] [] p3] X.env = (false, eval (.Call (.Name "range" p2) [a] [] p3) X.env) :: starEach [] X.env := by rfl) : VE X ρ W (.Call (.Name "list" p) [.Call (.Name "range" p2) [a] [] p3] [] pos) (fListRg1 fa) := by
  obtain ⟨t, p, s⟩ := ha
  refine ⟨_, pe_listRg hc hg hm (prg_1 hg2 hr p na) na2, fun π e σ w Q m h => ?_⟩
  refine s π e σ w _ m (h.bnd fun o1 e1 v1 w1 m1 f1 k1 h1 => ?_)
  have h3 := h1.from f1
  split at h3
  · rename_i j q1
    have r := res_sound m1 k1 q1
    cases r
    split at h3
    · rename_i hok
      refine ⟨j, rfl, rg_ok hok, fun q hq => ?_⟩
      obtain ⟨m2, f2, k2⟩ := mk_lst (es := rngN 0 j.toNat) (zs := rgV 0 j) m1 hq (by unfold rgV; rw [Int.sub_zero]; exact rp_rng)
      exact h3 _ _ m2 f2 (k2.base f1)
    · exact h3.elim
  · exact h3.elim
end
end VL
set_option maxRecDepth 100000
namespace VL
open PySem L2
end VL
set_option maxRecDepth 100000
namespace VL
open PySem L2
/-- the module's x is a tuple of these texts -/
def TupG (K : PySem.W.Frag) (mg : Str → Option Value) (x : Str) (ss : List Str) : Prop := ∃ a, mg x = some (.ref a) ∧ ∀ H, SqT K H a (ss.map V.str)
def strsB : List Value → List Str → Bool
  | [], [] => true
  | .str y _ :: vs, z :: zs => decide (y = z) && strsB vs zs
  | _, _ => false
def tupB (x : Str) (ss : List Str) (K : PySem.W.Frag) : Bool := match PySem.W.nsIn K mainGlobals x with
  | some (some (.ref a)) => (match K.lookup a with
    | some ⟨.type c, _, .seq its n, _⟩ => decide (c = "tuple") && (decide (its.size ≤ sizeLine) && strsB its.toList ss)
    | _ => false)
  | _ => false
theorem strs_vals : ∀ (vs : List Value) (ss : List Str), strsB vs ss = true → Vals (ss.map V.str) vs
  | [], [], _ => .nil
  | [], z :: zs, h => by cases h
  | v :: vs, [], h => by cases v <;> cases h
  | v :: vs, z :: zs, h => by
    cases v with
    | str y t =>
      have h' : (decide (y = z) && strsB vs zs) = true := h
      rw [Bool.and_eq_true] at h'
      have e := of_decide_eq_true h'.1
      subst e
      exact .cons ⟨t, rfl⟩ (strs_vals vs zs h'.2)
    | _ => cases h
theorem tup_ok {K : PySem.W.Frag} {h : Heap} {mg : Str → Option Value} (X : K.In h) (G : h.Ns mainGlobals mg) {x : Str} {ss : List Str} (c : tupB x ss K = true) : TupG K mg x ss := by
  unfold tupB at c
  split at c
  · rename_i a q
    split at c
    · rename_i cl od its n sl q2
      rw [Bool.and_eq_true, Bool.and_eq_true] at c
      obtain ⟨c1, c2, c3⟩ := c
      refine ⟨a, PySem.W.mg_of X G q, fun H => .inr ⟨_, its, n, q2, ?_, rfl, of_decide_eq_true c2, strs_vals _ _ c3⟩⟩
      rw [of_decide_eq_true c1]
    · cases c
  · cases c
def fInT (neg : Bool) (ss : List Str) (fa : FE) : FE := fun e => bnd (fa e) fun o e1 => match res e1 o with
  | some (.str s) => okD (.bool (if neg then !decide (s ∈ ss) else decide (s ∈ ss))) e1
  | _ => none
section
variable {X : Cx} {ρ : Nat → Res} {W : WX} {a : Expr} {pos p : Pos} {fa : FE}
theorem inV_strs (s : Str) : ∀ ss : List Str, inV (.str s) (ss.map V.str) = decide (s ∈ ss)
  | [] => rfl
  | z :: zs => by
    show (eqV (.str z) (.str s) || inV (.str s) (zs.map V.str)) = _
    rw [inV_strs s zs]
    show ((z == s) || decide (s ∈ zs)) = _
    by_cases h : z = s
    · subst h; simp
    · have : ¬ s = z := fun e => h e.symm
      simp [h, this]
theorem flat_strs : ∀ ss : List Str, (ss.map V.str).all flatV = true
  | [] => rfl
  | z :: zs => by rw [List.map_cons, List.all_cons, flat_strs zs]; rfl
theorem se_inT {C : Cc} {t : TE} {b : Addr} {ss : List Str} {neg : Bool} (hs : ∀ H, SqT C.K H b (ss.map V.str)) (s : SE C W t fa) : SE C W (tOp (rIn C.K neg) t (tC (.ref b))) (fInT neg ss fa) := fun π e σ w Q m h => by
  refine s π e σ w _ m (h.bnd fun o1 e1 v1 w1 m1 f1 k1 h1 => ?_)
  have h3 := h1.from f1
  split at h3
  · rename_i z q1
    have r := res_sound m1 k1 q1
    cases r
    refine ⟨b, _, rfl, .inr (hs _), rfl, flat_strs ss, ?_⟩
    rw [inV_strs]
    exact h3 _ w1 m1 (.refl _) (.fr (.bl _))
  · exact h3.elim
theorem vt_notInT {x : Str} {ss : List Str} (ha : VE X ρ W a fa) (ht : TupG X.K X.mg x ss) (hg : Gl X x := by rfl) (hd : (x == ("__debug__" : Str)) = false := by decide) (hm : behindInMarks .NotIn (.Name x p) = false := by first | exact nomark _ | rfl) : VT X ρ W (.Compare a [.NotIn] [.Name x p] pos) (fTest (fInT true ss fa)) := by
  obtain ⟨ta, pa, sa⟩ := ha
  obtain ⟨b, h1, h2⟩ := ht
  exact ⟨_, pt_cmpR op_notIn_seq pa (pe_glob hg h1 (v := .ref b) rfl hd) hm, st_test (se_inT h2 sa)⟩
end
end VL
set_option maxRecDepth 100000
namespace VL
open PySem L2
end VL
set_option maxRecDepth 100000
namespace VL
open PySem L2
def keq : PyData → PyData → Bool
  | .int i, .int j => decide (i = j)
  | .str a, .str b => decide (a = b)
  | _, _ => false
def isK : PyData → Bool
  | .int _ => true
  | .str _ => true
  | _ => false
def keyD : PyData → Key
  | .int i => .inl i
  | .str s => .inr s
  | _ => .inl 0
theorem kP_keyD {d : PyData} (h : isK d = true) : kP (keyD d) = d := by cases d <;> first | rfl | cases h
theorem kV_rq {K : PySem.W.Frag} {G H : Hp} {v : V} {d : PyData} (r : Rq K G H v d) (h : isK d = true) : v = kV (keyD d) := by cases d <;> first | (cases r; rfl) | cases h
theorem keq_kP (a b : Key) : keq (kP a) (kP b) = decide (a = b) := by
  cases a <;> cases b <;> simp [kP, keq]
abbrev DKv := List (PyData × PyData)
def lookD (ds : DKv) (k : PyData) : Option PyData := (ds.find? fun p => keq p.1 k).map (·.2)
def putD (ds : DKv) (k v : PyData) : DKv := if (ds.any fun p => keq p.1 k) = true then ds.map (fun p => if keq p.1 k = true then (p.1, v) else p) else ds ++ [(k, v)]
/-- a dict's entries and their data -/
inductive RpD (K : PySem.W.Frag) (G : Hp) : List (Key × V) → DKv → Prop
  | nil : RpD K G [] []
  | cons {k : Key} {v : V} {d : PyData} {ks : List (Key × V)} {ds : DKv} : Rp K G v d → RpD K G ks ds → RpD K G ((k, v) :: ks) ((kP k, d) :: ds)
section
variable {K : PySem.W.Frag} {G : Hp}
theorem rpd_of : ∀ {ks : List (Key × V)} {ds : DKv}, ks.map (fun q => kP q.1) = ds.map (·.1) → RpAll K G (ks.map (·.2)) (ds.map (·.2)) → RpD K G ks ds
  | [], [], _, _ => .nil
  | [], p :: ds, h, _ => by cases h
  | p :: ks, [], h, _ => by cases h
  | (k, v) :: ks, (a, d) :: ds, h, r => by
    cases r with
    | cons r1 r2 =>
      have h1 : kP k :: ks.map (fun q => kP q.1) = a :: ds.map (·.1) := h
      injection h1 with h2 h3
      subst h2
      exact .cons r1 (rpd_of h3 r2)
theorem RpD.keys : ∀ {ks : List (Key × V)} {ds : DKv}, RpD K G ks ds → ks.map (fun q => kP q.1) = ds.map (·.1)
  | _, _, .nil => rfl
  | _, _, .cons _ t => by rw [List.map_cons, List.map_cons, t.keys]
theorem RpD.vals : ∀ {ks : List (Key × V)} {ds : DKv}, RpD K G ks ds → RpAll K G (ks.map (·.2)) (ds.map (·.2))
  | _, _, .nil => .nil
  | _, _, .cons r t => .cons r t.vals
theorem RpD.length : ∀ {ks : List (Key × V)} {ds : DKv}, RpD K G ks ds → ks.length = ds.length
  | _, _, .nil => rfl
  | _, _, .cons _ t => by rw [List.length_cons, List.length_cons, t.length]
theorem RpD.mono {G' : Hp} (e : Same G G') : ∀ {ks : List (Key × V)} {ds : DKv}, RpD K G ks ds → RpD K G' ks ds
  | _, _, .nil => .nil
  | _, _, .cons r t => .cons (r.mono e) (t.mono e)
theorem RpD.append : ∀ {ks ls : List (Key × V)} {ds es : DKv}, RpD K G ks ds → RpD K G ls es → RpD K G (ks ++ ls) (ds ++ es)
  | _, _, _, _, .nil, t => t
  | _, _, _, _, .cons r t, u => .cons r (t.append u)
theorem RpD.look : ∀ {ks : List (Key × V)} {ds : DKv}, RpD K G ks ds → ∀ k : Key, (valV ks k = none ∧ lookD ds (kP k) = none) ∨ ∃ v d, valV ks k = some v ∧ lookD ds (kP k) = some d ∧ Rp K G v d
  | _, _, .nil, k => .inl ⟨rfl, rfl⟩
  | _, _, .cons (k := a) (v := v) (d := d) (ks := ks) (ds := ds) r t, k => by
    have h1 : lookD ((kP a, d) :: ds) (kP k) = if a = k then some d else lookD ds (kP k) := by
      unfold lookD
      rw [List.find?_cons, keq_kP]
      by_cases e : a = k
      · rw [decide_eq_true e, if_pos e]; rfl
      · rw [decide_eq_false e, if_neg e]
    by_cases e : a = k
    · rw [if_pos e] at h1
      exact .inr ⟨v, d, valV_pos e, h1, r⟩
    · rw [if_neg e] at h1
      rw [h1, valV_neg e]
      exact t.look k
theorem RpD.any : ∀ {ks : List (Key × V)} {ds : DKv}, RpD K G ks ds → ∀ k : Key, (ks.any fun p => decide (p.1 = k)) = ds.any fun p => keq p.1 (kP k)
  | _, _, .nil, k => rfl
  | _, _, .cons (k := a) r t, k => by rw [List.any_cons, List.any_cons, keq_kP, t.any k]
theorem RpD.over {v : V} {d : PyData} (k : Key) (r : Rp K G v d) : ∀ {ks : List (Key × V)} {ds : DKv}, RpD K G ks ds → RpD K G (ks.map (fun kv => if kv.1 = k then (kv.1, v) else kv)) (ds.map fun p => if keq p.1 (kP k) = true then (p.1, d) else p)
  | _, _, .nil => .nil
  | _, _, .cons (k := a) r1 t => by
    rw [List.map_cons, List.map_cons, keq_kP]
    by_cases q : a = k
    · rw [if_pos q, if_pos (decide_eq_true q)]
      exact .cons r (RpD.over k r t)
    · rw [if_neg q, if_neg (by rw [decide_eq_false q]; decide)]
      exact .cons r1 (RpD.over k r t)
theorem RpD.put {ks : List (Key × V)} {ds : DKv} {v : V} {d : PyData} (h : RpD K G ks ds) (k : Key) (r : Rp K G v d) : RpD K G (putK ks k v) (putD ds (kP k) d) := by
  unfold putK putD
  rw [h.any k]
  split
  · exact h.over k r
  · exact h.append (.cons r .nil)
end
theorem mk_dict {C : Cc} {π : List (Nat × V)} {e : Env} {σ : St} {w : WS} {p : Addr} {ks : List (Key × V)} {es : DKv} (m : Mt C π e σ w) (hp : w.H p = none) (r : RpD C.K w.G ks es) :
    Mt C π e σ (w.new p (.dK ks)) ∧ Frm w (w.new p (.dK ks)) ∧ OOk C σ w (w.new p (.dK ks)) (.b (.od es)) (.ref p) := mk_dic m hp r.keys r.vals
section
variable {C : Cc} {π : List (Nat × V)} {e : Env} {σ : St} {w : WS}
/-- a dict of one's own changes -/
theorem Mt.mutD {i : Nat} {ds ds' : DKv} (m : Mt C π e σ w) (h : at? e i = some (.od ds)) : ∃ p ks, σ[i]? = some (some (.ref p)) ∧ w.H p = some (.dK ks) ∧ w.G p = none ∧ RpD C.K w.G ks ds ∧
    ∀ ks', RpD C.K w.G ks' ds' → Mt C π (e.set i (some (.od ds'))) σ { w with H := upd w.H p (.dK ks') } ∧ Frm w { w with H := upd w.H p (.dK ks') } := by
  obtain ⟨v, h1, h2⟩ := m.bok i _ h
  obtain ⟨p, ks, rfl, g1, g2, g3, g3', g4⟩ := h2
  refine ⟨p, ks, h1, g2, g1, rpd_of g3 g3', fun ks' r => ⟨⟨by rw [List.length_set]; exact m.len, fun a o q => ?_, fun j b q => ?_, fun j q a z => ?_, m.dis, m.pin⟩, ⟨Same.refl _, fun a o q n => ⟨?_, rfl, n⟩, fun a q => ?_⟩⟩⟩
  · show upd w.H p (.dK ks') a = some o
    rw [upd_ne (ne_of_none q g1)]
    exact m.sub a o q
  · by_cases hj : i = j
    · subst hj
      rw [at_set_same h] at q
      cases q
      exact ⟨.ref p, h1, p, ks', rfl, g1, upd_same, r.keys, r.vals, g4⟩
    · rw [at_set_ne hj] at q
      obtain ⟨u, k1, k2⟩ := m.bok j b q
      refine ⟨u, k1, k2.mono (Same.refl _) fun a ha => ⟨upd_ne fun z => ?_, rfl⟩⟩
      subst z
      exact hj (m.dis i j a ((g4 a).mpr rfl) ha)
  · by_cases hj : i = j
    · subst hj
      rw [at_set_same h] at q
      cases q
    · rw [at_set_ne hj] at q
      exact m.non j q a z
  · show upd w.H p (.dK ks') a = some o
    rw [upd_ne fun z => n i (by rw [z]; exact (g4 p).mpr rfl)]
    exact q
  · by_cases z : a = p
    · rw [z] at q
      have : upd w.H p (.dK ks') p = none := q
      rw [upd_same] at this
      cases this
    · have : upd w.H p (.dK ks') a = none := q
      rwa [upd_ne z] at this
end
/-- what is read in d at k -/
def oDix : PyData → PyData → Option B
  | .dict ds, k => if isK k = true then (lookD ds k).map .fr else none
  | _, _ => none
section
variable {X : Cx} {ρ : Nat → Res} {W : WX} {pn : List Nat} {a b c o : Expr} {es : List Expr} {pos p p2 apos cpos : Pos} {fa fb fc fx fv : FE} {fd : FD}
def fDNew : FE := fun e => some (.ok (.b (.od [])) e)
theorem ve_dnew : VE X ρ W (.Dict [] [] pos) fDNew := by
  refine ⟨_, pe_dnewK, fun π e σ w Q m h => fun q hq => ?_⟩
  obtain ⟨m2, f2, k2⟩ := mk_dict (ks := []) (es := []) m hq .nil
  exact h _ _ m2 f2 k2
theorem rq_dict {K : PySem.W.Frag} {G H : Hp} {v : V} {ds : DKv} (r : Rq K G H v (.dict ds)) : ∃ a ks, v = .ref a ∧ H a = some (.dK ks) ∧ RpD K G ks ds := by
  obtain ⟨a, ks, h1, h2, h3, h4⟩ := r
  exact ⟨a, ks, h1, h2, rpd_of h3 h4⟩
theorem ve_dix (hu : X.A.units + 1 < cLine) (ha : VE X ρ W a fa) (hb : VE X ρ W b fb) (hs : NoSl b := by exact fun _ _ => rfl) : VE X ρ W (.Subscript a b pos) (fBin oDix fa fb) := by
  obtain ⟨t, p, s⟩ := ha
  obtain ⟨t2, p2, s2⟩ := hb
  refine ⟨_, pe_dget hu p p2 hs, fun π e σ w Q m h => ?_⟩
  refine s π e σ w _ m (h.bnd fun o1 e1 v1 w1 m1 f1 k1 h1 => ?_)
  refine s2 π e1 σ w1 _ m1 ((h1.from f1).bnd fun o2 e2 v2 w2 m2 f2 k2 h2 => ?_)
  have h3 := h2.from f2
  cases q1 : res e2 o1 with
  | none => rw [q1] at h3; exact h3.elim
  | some d1 =>
    cases q2 : res e2 o2 with
    | none => rw [q1, q2] at h3; exact h3.elim
    | some d2 =>
      rw [q1, q2] at h3
      simp only [Option.bind_some] at h3
      cases q3 : oDix d1 d2 with
      | none => rw [q3] at h3; exact h3.elim
      | some z =>
        rw [q3] at h3
        simp only [Option.bind_some] at h3
        unfold oDix at q3
        split at q3
        · rename_i ds
          split at q3
          · rename_i hk
            obtain ⟨ad, ks, rfl, g2, g3⟩ := rq_dict (res_sound m2 (k1.step f2) q1)
            have e2 := kV_rq (res_sound m2 k2 q2) hk
            rcases g3.look (keyD d2) with ⟨z1, z2⟩ | ⟨v, d, z1, z2, z3⟩
            · rw [kP_keyD hk] at z2; rw [z2] at q3; cases q3
            · rw [kP_keyD hk] at z2; rw [z2] at q3; cases q3
              subst e2
              exact ⟨ad, v, rfl, by rw [← z1]; exact DGet.k g2, h3 _ w2 m2 (.refl _) (.fr z3)⟩
          · cases q3
        · cases q3
theorem st_tB {C : Cc} {t : TE} {f : FE} (s : SE C W t f) : ST C W (tB t) (fTest f) := st_test s
end
end VL
set_option maxRecDepth 100000
namespace VL
open PySem L2
/-- an unowned thing changes -/
theorem Mt.over {C : Cc} {π : List (Nat × V)} {e : Env} {σ : St} {w : WS} {D : Addr} {o' : HO} (m : Mt C π e σ w) (hG : w.G D = none) (hn : ∀ i, ¬ w.fp i D) : Mt C π e σ { w with H := upd w.H D o' } := by
  refine ⟨m.len, fun a u qa => ?_, fun j b qb => ?_, m.non, m.dis, m.pin⟩
  · show upd w.H D o' a = some u
    rw [upd_ne (ne_of_none qa hG)]
    exact m.sub a u qa
  · obtain ⟨v, b1, b2⟩ := m.bok j b qb
    exact ⟨v, b1, b2.mono (Same.refl _) fun a ha => ⟨upd_ne fun z => hn j (by rw [← z]; exact ha), rfl⟩⟩
theorem Frm.over {w w2 : WS} {D : Addr} {o' : HO} (f : Frm w w2) (hD : w.H D = none) : Frm w { w2 with H := upd w2.H D o' } := by
  refine ⟨f.g, fun a o ha hna => ?_, fun a ha => ?_⟩
  · obtain ⟨b1, b2, b3⟩ := f.k a o ha hna
    refine ⟨?_, b2, b3⟩
    show upd w2.H D _ a = some o
    rw [upd_ne (ne_of_none ha hD)]
    exact b1
  · by_cases z : a = D
    · rw [z]; exact hD
    · have ha' : upd w2.H D o' a = none := ha
      rw [upd_ne z] at ha'
      exact f.t a ha'
def dPairs : List (FE × FE) → Env → Option (Out DKv)
  | [], e => some (.ok [] e)
  | (fk, fv) :: r, e => bnd (fk e) fun o e1 => (res e1 o).bind fun k => if isK k = true then bnd (fv e1) fun o2 e2 => (fz e2 o2).bind fun p => bnd (dPairs r p.2) fun ps e3 => some (.ok ((k, p.1) :: ps) e3) else none
def mergeD (ds more : DKv) : DKv := more.foldl (fun acc p => putD acc p.1 p.2) ds
def fDisp (rs : List (FE × FE)) : FE := fun e => bnd (dPairs rs e) fun ds e1 => if ds.length ≤ 15 then some (.ok (.b (.od (mergeD [] ds))) e1) else none
inductive PrS (C : Cc) (W : WX) : List (TE × TE) → List (FE × FE) → Prop
  | nil : PrS C W [] []
  | cons {tk tv : TE} {fk fv : FE} {ts : List (TE × TE)} {rs : List (FE × FE)} : SE C W tk fk → SE C W tv fv → PrS C W ts rs → PrS C W ((tk, tv) :: ts) ((fk, fv) :: rs)
theorem pairs_sound {C : Cc} {W : WX} {ts : List (TE × TE)} {rs : List (FE × FE)} (h : PrS C W ts rs) : ∀ (π : List (Nat × V)) (e : Env) (σ : St) (w : WS) (Q : List (V × V) → Hp → Prop), Mt C π e σ w →
    Post C W π σ w (dPairs rs e) (fun w' ds ps => ∃ kvs : List (Key × V), ps = kvs.map (fun kv => (kV kv.1, kv.2)) ∧ RpD C.K w'.G kvs ds) Q → tPairs ts σ w.H Q := by
  induction h with
  | nil => exact fun π e σ w Q m h => h [] w m (.refl w) ⟨[], rfl, .nil⟩
  | @cons tk tv fk fv ts rs sk sv hr ih =>
    intro π e σ w Q m h
    refine sk π e σ w _ m (h.bnd fun o1 e1 v1 w1 m1 f1 k1 h1 => ?_)
    cases q1 : res e1 o1 with
    | none => rw [q1] at h1; exact h1.elim
    | some kd =>
      rw [q1] at h1
      simp only [Option.bind_some] at h1
      split at h1
      case isFalse => exact h1.elim
      case isTrue hk =>
        have hv1 := kV_rq (res_sound m1 k1 q1) hk
        refine sv π e1 σ w1 _ m1 ((h1.from f1).bnd fun o2 e2 v2 w2 m2 f2 k2 h2 => ?_)
        cases q2 : fz e2 o2 with
        | none => rw [q2] at h2; exact h2.elim
        | some pz =>
          rw [q2] at h2
          obtain ⟨dz, ez⟩ := pz
          simp only [Option.bind_some] at h2
          obtain ⟨w3, m3, f3, eH3, r3⟩ := fz_sound m2 f2 k2 q2
          rw [← eH3]
          refine ih π ez σ w3 _ m3 ((h2.from f3).bnd fun ps e4 vs w4 m4 f4 k4 h4 => ?_)
          obtain ⟨kvs, rfl, r4⟩ := k4
          refine h4 _ w4 m4 f4 ⟨(keyD kd, v2) :: kvs, ?_, ?_⟩
          · rw [List.map_cons, hv1]
          · have := RpD.cons (k := keyD kd) (r3.mono f4.g) r4
            rwa [kP_keyD hk] at this
theorem merge_rp {K : PySem.W.Frag} {G : Hp} : ∀ {kvs : List (Key × V)} {ds : DKv}, RpD K G kvs ds → ∀ {ks : List (Key × V)} {es : DKv}, RpD K G ks es → RpD K G (mergeK ks kvs) (mergeD es ds)
  | _, _, .nil, _, _, h => h
  | _, _, .cons (k := k) r t, _, _, h => merge_rp t (h.put k r)
section
variable {X : Cx} {ρ : Nat → Res} {W : WX} {pn : List Nat} {a b c o : Expr} {es : List Expr} {pos p p2 apos cpos : Pos} {fa fb fc fx fv fk : FE} {fd : FD}
def VPs (X : Cx) (ρ : Nat → Res) (W : WX) (pos : Pos) (ks : List (Option Expr)) (vs : List Expr) (rs : List (FE × FE)) : Prop := ∃ ts, PPs X pos ks vs ts ∧ PrS (cc X ρ) W ts rs
theorem vp_nil : VPs X ρ W pos [] [] [] := ⟨_, pps_nil, .nil⟩
theorem vp_cons {ks : List (Option Expr)} {vs : List Expr} {rs : List (FE × FE)} (ha : VE X ρ W a fk) (hb : VE X ρ W b fv) (h : VPs X ρ W pos ks vs rs) : VPs X ρ W pos (some a :: ks) (b :: vs) ((fk, fv) :: rs) := by
  obtain ⟨t1, p1, s1⟩ := ha
  obtain ⟨t2, p2, s2⟩ := hb
  obtain ⟨ts, p3, s3⟩ := h
  exact ⟨_, pps_cons p1 p2 p3, .cons s1 s2 s3⟩
theorem ve_disp {ks : List (Option Expr)} {vs : List Expr} {rs : List (FE × FE)} (h : VPs X ρ W pos ks vs rs) (hall : ks.all (·.isSome) = true := by rfl) (hl : ks.length = vs.length := by rfl) (h0 : ks ≠ [] := by exact nofun) (h15 : ks.length ≤ 15 := by decide) : VE X ρ W (.Dict ks vs pos) (fDisp rs) := by
  obtain ⟨ts, p1, s1⟩ := h
  refine ⟨_, pe_disp p1 hall hl h0 h15, fun π e σ w Q m h => fun q hq => ?_⟩
  have hG : w.G q = none := m.sub.free hq
  have m0 := m.new (o := .dK []) hq
  have f0 := Frm.new (o := .dK []) hq
  have hn : ∀ i, ¬ (w.new q (.dK [])).fp i q := fun i => m.notOwned hq i
  refine pairs_sound s1 π e σ (w.new q (.dK [])) _ m0 ?_
  have h' : Post (cc X ρ) W π σ w (bnd (dPairs rs e) fun ds e1 => if ds.length ≤ 15 then some (.ok (.b (.od (mergeD [] ds))) e1) else none) (OOk (cc X ρ) σ w) Q := h
  cases qd : dPairs rs e with
  | none => rw [qd] at h'; exact h'
  | some r =>
    rw [qd] at h'
    cases r with
    | ex c e1 => exact fun w' A hA m' f' => h' w' A hA m' (f0.trans f')
    | ok ds e1 =>
      intro ps w1 m1 f1 k1
      obtain ⟨kvs, rfl, r1⟩ := k1
      obtain ⟨g1, g2, g3⟩ := f1.k q _ (upd_same : (w.new q (.dK [])).H q = some (.dK [])) hn
      have g2' : w1.G q = none := g2.trans hG
      have h2 : Post (cc X ρ) W π σ w (if ds.length ≤ 15 then some (Out.ok (O.b (.od (mergeD [] ds))) e1) else none) (OOk (cc X ρ) σ w) Q := h'
      split at h2
      case isFalse => exact h2.elim
      case isTrue hz =>
        refine ⟨g1, kvs, rfl, by rw [r1.length]; exact hz, ?_⟩
        have r2 := merge_rp r1 (ks := []) (es := []) .nil
        have m2 := m1.over (o' := .dK (mergeK [] kvs)) g2' g3
        exact h2 _ { w1 with H := upd w1.H q (.dK (mergeK [] kvs)) } m2 ((f0.trans f1).over hq) ⟨fun a => a = q, ⟨q, _, rfl, g2', upd_same, r2.keys, r2.vals, fun _ => Iff.rfl⟩, fun a ha => by subst ha; exact ⟨.inl hq, g3⟩⟩
def putAtD (i : Nat) (f : FE) (d : PyData) : Env → Option (Out Unit) := fun e => match at? e i with
  | none => none
  | some _ => bnd (f e) fun o e1 => match res e1 o, at? e1 i with
    | some k, some (.od ds) => if isK k = true ∧ ds.length < big then some (.ok () (e1.set i (some (.od (putD ds k d))))) else none
    | _, _ => none
def sPutD (i : Nat) (fx fv : FE) : FS := fun e => bndS (fv e) fun o e1 => (fz e1 o).bind fun p => bndS (putAtD i fx p.1 p.2) fun _ e2 => some (.nx e2)
theorem put_soundD {C : Cc} {π : List (Nat × V)} {e : Env} {σ : St} {w : WS} {ti : TE} {i : Nat} {d : PyData} {x : V} {D : Ends} {kk : Unit → Env → Option SO} {Qt : St → Hp → Prop} (s : SE C W ti fx) (m : Mt C π e σ w) (r : Rp C.K w.G x d) (h : PostS C W π w (bndS (putAtD i fx d e) kk) D)
    (hk : ∀ e2 w2, Mt C π e2 σ w2 → Frm w w2 → PostS C W π w2 (kk () e2) D → Qt σ w2.H) : gSub (tVar i) ti rSetD x σ w.H Qt := by
  unfold putAtD at h
  cases q : at? e i with
  | none => rw [q] at h; exact h.elim
  | some b =>
    rw [q] at h
    obtain ⟨v, h1, h2⟩ := m.bok i b q
    refine ⟨v, h1, ?_⟩
    have h' : PostS C W π w (bndS (bnd (fx e) fun o e1 => match res e1 o, at? e1 i with
      | some k, some (.od ds) => if isK k = true ∧ ds.length < big then some (.ok () (e1.set i (some (.od (putD ds k d))))) else none
      | _, _ => none) kk) D := h
    rw [bndS_bnd] at h'
    refine s π e σ w _ m (h'.bnd fun o1 e1 v1 w1 m1 f1 k1 h3 => ?_)
    split at h3
    · rename_i kd ds q1 q2
      split at h3
      · rename_i hc
        obtain ⟨p, ks, g1, g2, g3, g4, g5⟩ := m1.mutD (ds' := putD ds kd d) q2
        rw [h1] at g1
        cases g1
        have rk := kV_rq (res_sound m1 k1 q1) hc.1
        subst rk
        have rp := g4.put (keyD kd) (r.mono f1.g)
        rw [kP_keyD hc.1] at rp
        obtain ⟨m2, f2⟩ := g5 _ rp
        exact ⟨p, _, rfl, DPut.k g2 (by rw [g4.length]; exact Nat.lt_of_lt_of_le hc.2 big_le), hk _ _ m2 (f1.trans f2) (h3.from (f1.trans f2))⟩
      · exact h3.elim
    · exact h3.elim
theorem ss_putD {C : Cc} {te ti : TE} {i : Nat} (sv : SE C W te fv) (sx : SE C W ti fx) : SS C W pn (tAsg te (gSub (tVar i) ti rSetD)) (sPutD i fx fv) := fun π e σ w D hp m h => by
  refine sv π e σ w _ m (h.bnd fun o1 e1 v1 w1 m1 f1 k1 h1 => ?_)
  cases q : fz e1 o1 with
  | none => rw [q] at h1; exact h1.elim
  | some pr =>
    rw [q] at h1
    obtain ⟨w2, m2, f2, eH, rp⟩ := fz_sound (e' := pr.2) m1 f1 k1 q
    rw [← eH]
    exact put_soundD sx m2 rp (h1.from f2) fun e3 w3 m3 f3 h3 => h3 σ w3 m3 (.refl _)
theorem vs_putD {x : Str} {py ps : Pos} (hu : X.A.units + 1 < cLine) (i : Nat) (hx : VE X ρ W b fx) (hv : VE X ρ W a fv) (hN : X.N[i]? = some x := by rfl) (hvs : Vis X.env.scope x := by first | exact Or.inl rfl | exact Or.inr (Or.inl rfl) | exact Or.inr (Or.inr rfl)) (hd : (x == ("__debug__" : Str)) = false := by decide)
    (hcd : (x == ("__classdict__" : Str)) = false := by decide) (hs : swapsWithSole [.Subscript (.Name x py) b ps] a pos.line X.env = pure false := by rfl) (hw : swappedStores [.Subscript (.Name x py) b ps] a X.env = pure none := by rfl)
    (h1 : (assignEach [.Subscript (.Name x py) b ps] X.env).map (·.2) = [assign (.Subscript (.Name x py) b ps) X.env] := by rfl)
    (ha : ∀ v, assign (.Subscript (.Name x py) b ps) X.env v = (do
      let ov ← holding [v] (eval (.Name x py) X.env)
      let iv ← holding [v, ov] (eval b X.env)
      standAt ps
      holding [v, ov, iv] (setItem ov iv v)
      release [v, ov, iv] []) := by intro _; rfl) : VS X ρ W pn (.Assign [.Subscript (.Name x py) b ps] a pos) (sPutD i fx fv) := by
  obtain ⟨t, p, s⟩ := hx
  obtain ⟨t2, p2, s2⟩ := hv
  exact ⟨_, ps_asg p2 (pg_sub (pe_var hN hvs hd hcd) p (set_dict hu) ha) hs hw h1, ss_putD s2 s⟩
def fDGet2 (fa fk fv : FE) : FE := fun e => bnd (fa e) fun o1 e1 => match res e1 o1 with
  | some (.dict _) => bnd (fk e1) fun o2 e2 => bnd (fv e2) fun o3 e3 => match res e3 o1, res e3 o2, res e3 o3 with
    | some (.dict ds), some k, some dv => if isK k = true ∧ isFlat dv = true then okD ((lookD ds k).getD dv) e3 else none
    | _, _, _ => none
  | _ => none
theorem rq_flat {K : PySem.W.Frag} {G H : Hp} {v : V} {d : PyData} (r : Rq K G H v d) (h : isFlat d = true) : Rp K G v d := by
  cases d with
  | none => cases r; exact .non
  | bool b => cases r; exact .bl b
  | int i => cases r; exact .int i
  | str s => cases r; exact .str s
  | _ => cases h
theorem ve_dget2 (hu : X.A.units + 1 < cLine) (ho : VE X ρ W o fa) (hk : VE X ρ W a fk) (hv : VE X ρ W b fv)
    (hbase : attributeBase o "get" X.env (eval o X.env) = eval o X.env := by rfl)
    (hfew : ((backTo cpos (starEach [a, b] X.env)).all (fun x => !x.1) && (backToKw cpos (keywordEach [] X.env)).all (fun x => x.1.isSome)
      && decide (([a, b] : List Expr).length + ([] : List Keyword).length + (if ([] : List Keyword).isEmpty then 0 else 1) < 30)) = true := by rfl)
    (hline : (apos.endLine == cpos.line) = true := by rfl) (htr : backTo cpos (starEach [a, b] X.env) = [(false, eval a X.env), (false, eval b X.env)] := by rfl) : VE X ρ W (.Call (.Attribute o "get" apos) [a, b] [] cpos) (fDGet2 fa fk fv) := by
  obtain ⟨t1, p1, s1⟩ := ho
  obtain ⟨t2, p2, s2⟩ := hk
  obtain ⟨t3, p3, s3⟩ := hv
  refine ⟨_, pe_dget2 hu p1 p2 p3 ⟨hbase, hfew, hline, htr⟩, fun π e σ w Q m h => ?_⟩
  refine s1 π e σ w _ m (h.bnd fun o1 e1 v1 w1 m1 f1 k1 h1 => ?_)
  split at h1
  case h_2 => exact h1.elim
  rename_i ds0 q0
  obtain ⟨ad, ks0, rfl, g2, g3⟩ := rq_dict (res_sound m1 k1 q0)
  refine ⟨ad, rfl, .inl ⟨ks0, .inl g2⟩, ?_⟩
  refine s2 π e1 σ w1 _ m1 ((h1.from f1).bnd fun o2 e2 v2 w2 m2 f2 k2 h2 => ?_)
  refine s3 π e2 σ w2 _ m2 ((h2.from f2).bnd fun o3 e3 v3 w3 m3 f3 k3 h3 => ?_)
  split at h3
  case h_2 => exact h3.elim
  rename_i ds kd dv q1 q2 q3
  split at h3
  case isFalse => exact h3.elim
  case isTrue hc =>
    obtain ⟨a2, ks, e5, g4, g5⟩ := rq_dict (res_sound m3 ((k1.step f2).step f3) q1)
    injection e5 with e5
    subst e5
    have e6 := kV_rq (res_sound m3 (k2.step f3) q2) hc.1
    subst e6
    have r4 := rq_flat (res_sound m3 k3 q3) hc.2
    refine ⟨valV ks (keyD kd), DGet.k g4, ?_⟩
    refine (h3.from f3) _ w3 m3 (.refl _) (.fr ?_)
    rcases g5.look (keyD kd) with ⟨z1, z2⟩ | ⟨v, d, z1, z2, z3⟩
    · rw [kP_keyD hc.1] at z2; rw [z1, z2]; exact r4
    · rw [kP_keyD hc.1] at z2; rw [z1, z2]; exact z3
end
end VL
set_option maxRecDepth 100000
namespace VL
open PySem L2 PySem.Spec PyProof.Rows
end VL
set_option maxRecDepth 100000
namespace VL
open PySem L2 PySem.Spec PyProof.Rows
section
variable {X : Cx} {ρ : Nat → Res} {W : WX} {a : Expr} {fa : FE} {p q apos cpos pos : Pos}
def rVals : V → Hp → VK → Prop := fun x H Q => ∃ (d : Addr) (kvs : List (Key × V)), x = .ref d ∧ H d = some (.dK kvs) ∧ ∀ p, H p = none → Q (.ref p) (upd H p (.lst (kvs.map Prod.snd)))
theorem vals_map : ∀ {kvs : List (Key × V)} {vs : List (Key × Value)}, KV kvs vs → Vals (kvs.map Prod.snd) (vs.map Prod.snd)
  | _, _, .nil => .nil
  | _, _, .cons h t => .cons h.2 (vals_map t)
theorem pe_listVals {e : Expr} {te : TE} (hc : X.calm = true) (he : PE X e te) (hg : Gl X "list") (hm : X.mg "list" = none) (hv : bootBuiltins "list" = some (.type "list")) (hbase : attributeBase e "values" X.env (eval e X.env) = eval e X.env := by rfl) (hline : (apos.endLine == cpos.line) = true := by rfl)
    (hs : starEach [.Call (.Attribute e "values" apos) [] [] cpos] X.env = (false, eval (.Call (.Attribute e "values" apos) [] [] cpos) X.env) :: starEach [] X.env := by rfl) :
    PE X (.Call (.Name "list" p) [.Call (.Attribute e "values" apos) [] [] cpos] [] pos) (L2.tUn rVals te) := by
  refine ⟨fun pins s σ H Q I hq => ?_⟩
  refine wpAny_Call_Name_kw (ld_blt I hg hm hv ?_)
  refine PyProof.Rows.callWith_type1 ?_ hs rfl
  rw [hs]
  show wpAny _ _ (spliced ((false, eval (.Call (.Attribute e "values" apos) [] [] cpos) X.env) :: backTo pos (starEach [] X.env))) _ _ s
  refine Calls.spliced_cons ?_
  refine wpAny_Call_method (T := "dict") (id := "dict.values") hbase rfl hline F.plainAttrs_dict F.slot_dict_values F.type_dict_values (thn (he.run pins s σ H _ I hq) fun u s1 ⟨x, H1, I1, rx, d, kvs, ex, hd, q⟩ => ?_)
  subst ex
  obtain rfl : u = Value.ref d := rx
  obtain ⟨hz, hs0, vs, kv, hdo⟩ := I1.hok d _ hd
  obtain ⟨ep, hat⟩ := hdo.dictAt
  have lk : kvs.length = vs.length := Paired.length kv
  have I2 : Inv X pins σ H1 { s1 with heap := s1.heap.push { cls := .type "dict_values", data := .fields #[.ref d] } } := I1.kept (t' := s1.toks) fun b ob q => Heap.get?_push_of_some _ q
  refine ⟨hdo.typeIs, hdo.mapOf.noDict, ?_⟩
  show wpAny _ _ (callWith cpos (.builtin "dict.values") [.ref d] [] []) _ X.xe s1
  refine method_meetsIn F.slot_dict_values F.entry_dict_values rfl (PySem.evalArgs_none ⟨rfl, hdo.typeIs, F.args_dict_values_1 _, _, meets_dict_values (mixKind X.prog X.w) d hs0, ⟨vs, hdo⟩, ?_⟩)
  refine Calls.spliced_nil ?_
  refine PySem.W.kdl_call (PySem.W.kdl_values (knd := mixKind X.prog X.w) (kvs := vs) (ep := ep) (r := s1.heap.objs.size)) (I1.ok.hd hc) ⟨⟨_, Heap.get?_push_size _ rfl, rfl, rfl⟩, hat.push _⟩ (by omega) fun h' tk acc c hk hS hacc => ?_
  have ea : acc.toList = vs.map Prod.snd := PySem.W.kdl_vals_eq (K := Key) acc.toList (by rw [Array.length_toList]; exact hacc.1) fun j v e => hacc.2 j v (by rw [← Array.getElem?_toList]; exact e)
  refine ⟨.ref _, _, I2.laid (t' := tk) (o := .lst (kvs.map Prod.snd)) hk (Nat.le_refl _) ⟨by rw [List.length_map]; exact hz, acc.toList, c, by rw [ea]; exact vals_map kv, ?_⟩, rfl, q _ (I2.hok.fresh (Nat.le_refl _))⟩
  rw [Array.toArray_toList]
  exact hS
def oVals : PyData → Option B
  | .dict ds => some (.ow (ds.map (·.2)))
  | _ => none
def oItems : PyData → Option B
  | .dict ds => some (.ow (ds.map fun q => .tuple [q.1, q.2]))
  | _ => none
theorem ve_listVals (hc : X.calm = true) (hm : X.mg "list" = none) (ha : VE X ρ W a fa) (hg : Gl X "list" := by rfl) (hbase : attributeBase a "values" X.env (eval a X.env) = eval a X.env := by rfl) (hline : (apos.endLine == cpos.line) = true := by rfl)
    (hs : starEach [.Call (.Attribute a "values" apos) [] [] cpos] X.env = (false, eval (.Call (.Attribute a "values" apos) [] [] cpos) X.env) :: starEach [] X.env := by rfl) : VE X ρ W (.Call (.Name "list" p) [.Call (.Attribute a "values" apos) [] [] cpos] [] pos) (fUn oVals fa) := by
  obtain ⟨t, pp, s⟩ := ha
  refine ⟨_, pe_listVals hc pp hg hm PyProof.Rows.boot_list hbase hline hs, se_un (fun π e σ w x dx z Q m hx hz k => ?_) s⟩
  unfold oVals at hz
  split at hz
  · cases hz
    obtain ⟨d, ks, rfl, hd, h1, h2⟩ := hx
    refine ⟨d, ks, rfl, hd, fun p hp => ?_⟩
    obtain ⟨m5, f5, k5⟩ := mk_lst m hp h2
    exact k _ _ m5 f5 k5
  · cases hz
theorem rp_key {K : PySem.W.Frag} {G : Hp} (k : Key) : Rp K G (kV k) (kP k) := by
  cases k with
  | inl i => exact .int i
  | inr x => exact .str x
theorem items_rp {K : PySem.W.Frag} {G G' : Hp} (sG : Same G G') : ∀ {ts : List Addr} {ks : List (Key × V)} {ds : DKv}, RpD K G ks ds → Paired (fun (t : Addr) (q : Key × V) => G' t = some (.tup [kV q.1, q.2])) ts ks → RpAll K G' (ts.map V.ref) (ds.map fun q => .tuple [q.1, q.2])
  | _, _, _, .nil, .nil => .nil
  | _, _, _, .cons r t, .cons h u => .cons (.tup h (.cons (rp_key _) (.cons (r.mono sG) .nil))) (items_rp sG t u)
theorem paired_imp {α β : Type} {F F' : α → β → Prop} : ∀ {xs : List α} {ys : List β}, (∀ x ∈ xs, ∀ y, F x y → F' x y) → Paired F xs ys → Paired F' xs ys
  | _, _, _, .nil => .nil
  | _, _, h, .cons r t => .cons (h _ List.mem_cons_self _ r) (paired_imp (fun x hx => h x (List.mem_cons_of_mem _ hx)) t)
open Classical in
theorem ve_listItems (hc : X.calm = true) (hm : X.mg "list" = none) (ha : VE X ρ W a fa) (hg : Gl X "list" := by rfl) (hbase : attributeBase a "items" X.env (eval a X.env) = eval a X.env := by rfl) (hline : (apos.endLine == cpos.line) = true := by rfl)
    (hs : starEach [.Call (.Attribute a "items" apos) [] [] cpos] X.env = (false, eval (.Call (.Attribute a "items" apos) [] [] cpos) X.env) :: starEach [] X.env := by rfl) : VE X ρ W (.Call (.Name "list" p) [.Call (.Attribute a "items" apos) [] [] cpos] [] pos) (fUn oItems fa) := by
  obtain ⟨t, pp, s⟩ := ha
  refine ⟨_, LiI.pe_listItems hc pp hg hm PyProof.Rows.boot_list hbase hline hs, se_un (r := LiI.rItemsL) (fun π e σ w x dx z Q m hx hz k => ?_) s⟩
  unfold oItems at hz
  split at hz
  · cases hz
    obtain ⟨d, ks, rfl, hd, hr⟩ := rq_dict hx
    refine ⟨d, ks, rfl, hd, fun H' p ts sH hp hts hpts hl hP => ?_⟩
    have sG : Same w.G (fun a => if a ∈ ts then H' a else w.G a) := fun a u q => by
      have : a ∉ ts := fun z => by
        have := m.sub a u q
        rw [hts a z] at this
        cases this
      show (if a ∈ ts then H' a else w.G a) = some u
      rw [if_neg this]
      exact q
    have own : ∀ i a, w.fp i a → ∃ o, w.H a = some o := fun i a ha => (m.own ha).2
    have m' : Mt (cc X ρ) π e σ { w with H := H', G := fun a => if a ∈ ts then H' a else w.G a } := by
      refine ⟨m.len, fun a u q => ?_, fun i b q => ?_, m.non, m.dis, m.pin⟩
      · have q' : (if a ∈ ts then H' a else w.G a) = some u := q
        split at q'
        · exact q'
        · exact sH a u (m.sub a u q')
      · obtain ⟨v, h1, h2⟩ := m.bok i b q
        refine ⟨v, h1, h2.mono sG fun a ha => ?_⟩
        obtain ⟨o, ho⟩ := own i a ha
        refine ⟨(sH a o ho).trans ho.symm, ?_⟩
        have : a ∉ ts := fun z => by rw [hts a z] at ho; cases ho
        exact if_neg this
    have f' : Frm w { w with H := H', G := fun a => if a ∈ ts then H' a else w.G a } := by
      refine ⟨sG, fun a o h n => ⟨sH a o h, if_neg (fun z => by rw [hts a z] at h; cases h), n⟩, fun a h => ?_⟩
      cases q : w.H a with
      | none => rfl
      | some o =>
        have h' : H' a = none := h
        rw [sH a o q] at h'
        cases h'
    have hGp : (if p ∈ ts then H' p else w.G p) = none := by
      rw [if_neg hpts]
      exact m.sub.free hp
    refine k (.ref p) _ m' f' ⟨fun a => a = p, ⟨p, ts.map V.ref, rfl, hGp, hl, items_rp sG hr (paired_imp (fun x hx y hy => ?_) hP), fun _ => Iff.rfl⟩, fun a ha => by subst ha; exact ⟨.inl hp, m.notOwned hp⟩⟩
    show (if x ∈ ts then H' x else w.G x) = _
    rw [if_pos hx]
    exact hy
  · cases hz
end
end VL
set_option maxRecDepth 100000
namespace VL
open PySem L2 PySem.Spec PyProof.Rows
end VL
set_option maxRecDepth 100000
namespace VL
open PySem L2 PySem.Spec PyProof.Rows
open PySem.W (AllAlike Sortable EachIs dataKind sortVals sortingHeap copyHeap alike alikeAll)
def dle (a b : PyData) : Bool := !PySem.W.dataLt b a
end VL
set_option maxRecDepth 100000
namespace VW
open PySem L2 PyProof.Rows
/-- the first n places from x on -/
def trip (m : Nat) : Nat → Nat → List Nat
  | 0, _ => []
  | n + 1, x => x :: trip m n ((x * 5 + 1) % (m + 1))
theorem trip_at (m : Nat) : ∀ (n k a : Nat), k < n → (trip m n (lcgN m a))[k]? = some (lcgN m (a + k))
  | 0, _, _, h => absurd h (Nat.not_lt_zero _)
  | n + 1, 0, a, _ => rfl
  | n + 1, k + 1, a, h => by
    show (trip m n (lcgN m (a + 1)))[k]? = _
    rw [trip_at m n k (a + 1) (by omega), show a + 1 + k = a + (k + 1) by omega]
def whole511 : Bool := (List.range 512).all fun j => (trip 511 512 0).contains j
theorem whole511_ok : whole511 = true := by decide +kernel
theorem home511 : lcgN 511 512 = 0 := by decide +kernel
/-- from each place each other is met within one round -/
def Meets (m : Nat) : Prop := ∀ i j, i ≤ m → j ≤ m → ∃ k, k ≤ m ∧ lcgI m i k = j
theorem meets511 : Meets 511 := by
  have at_ : ∀ j, j ≤ 511 → ∃ b, b ≤ 511 ∧ lcgN 511 b = j := fun j hj => by
    have h1 := List.all_eq_true.mp whole511_ok j (List.mem_range.mpr (by omega))
    have h2 : j ∈ trip 511 512 0 := by simpa using h1
    obtain ⟨b, hb, e⟩ := List.getElem_of_mem h2
    have hl : ∀ n x, (trip 511 n x).length = n := fun n => by
      induction n with
      | zero => exact fun _ => rfl
      | succ n ih => exact fun x => by rw [trip, List.length_cons, ih]
    rw [hl] at hb
    have h3 := trip_at 511 512 b 0 hb
    have h4 : (trip 511 512 0)[b]? = some j := by rw [List.getElem?_eq_getElem (by rw [hl]; exact hb), e]
    have h5 : trip 511 512 (lcgN 511 0) = trip 511 512 0 := rfl
    rw [h5, h4, Nat.zero_add] at h3
    exact ⟨b, by omega, (Option.some.inj h3).symm⟩
  have round : ∀ k, lcgN 511 (512 + k) = lcgN 511 k := fun k => by
    induction k with
    | zero => exact home511
    | succ k ih =>
      show (lcgN 511 (512 + k) * 5 + 1) % 512 = (lcgN 511 k * 5 + 1) % 512
      rw [ih]
  intro i j hi hj
  obtain ⟨a, ha, rfl⟩ := at_ i hi
  obtain ⟨b, hb, rfl⟩ := at_ j hj
  by_cases h : a ≤ b
  · exact ⟨b - a, by omega, by rw [lcgN_add, show a + (b - a) = b by omega]⟩
  · exact ⟨512 + b - a, by omega, by rw [lcgN_add, show a + (512 + b - a) = 512 + b by omega, round]⟩
/-- the masks that come -/
structure Mk (m : Nat) : Prop where
  four : m = 7 ∨ m = 31 ∨ m = 127 ∨ m = 511
  odd : m % 2 = 1
  le : m ≤ 511
  meets : Meets m
theorem mk_kit {m : Nat} (h : MaskOk m) : Mk m := ⟨by rcases h with h | h | h <;> omega, mask_odd h, by rcases h with h | h | h <;> omega, fun i j hi hj => lcgI_all h hi hj⟩
theorem mk31 : Mk 31 := mk_kit (.inr (.inl rfl))
theorem mk127 : Mk 127 := mk_kit (.inr (.inr rfl))
theorem mk511 : Mk 511 := ⟨.inr (.inr (.inr rfl)), rfl, Nat.le_refl _, meets511⟩
section
variable {m : Nat} {t : SetTable} {hs : List Int} {h : Int} {K : Nat}
theorem in_table : way m h K ≤ m := by
  have h1 : SetTable.bits h % (m + 1) ≤ m := Nat.le_of_lt_succ (Nat.mod_lt _ (Nat.succ_pos _))
  obtain ⟨r1, r2, _⟩ := runEnd_bd h1
  have := nth_in (m := m) K (runAt m (SetTable.bits h % (m + 1)) (SetTable.bits h)) (by
    show SetTable.bits h % (m + 1) + (SetTable.runEnd m (SetTable.bits h % (m + 1)) - SetTable.bits h % (m + 1)) ≤ m
    omega)
  exact Nat.le_trans (Nat.le_add_right _ _) this
/-- a run that begins at a place -/
theorem begins (W : Mk m) (h : Int) {j : Nat} (hj : j ≤ m) : ∃ n, n ≤ m + 12 ∧ runI m (SetTable.bits h) n = j := by
  obtain ⟨k, hk, e⟩ := W.meets _ _ (runI_le m (SetTable.bits h) 12) hj
  exact ⟨12 + k, by omega, (runI_tail (bits_lt h) k).trans e⟩
/-- the first step that has what some place has -/
theorem least_step {p : Nat → Prop} (W : Mk m) (h : Int) {j : Nat} (hj : j ≤ m) (hp : p j) : ∃ K, K < 10 * SetTable.turns m ∧ p (way m h K) ∧ ∀ k, k < K → ¬ p (way m h k) := by
  obtain ⟨n, hn, e⟩ := begins W h hj
  obtain ⟨k, hk, e2⟩ := run_nth m (SetTable.bits h) n
  have e3 : way m h k = j := by
    show (nth m (runAt m (SetTable.bits h % (m + 1)) (SetTable.bits h)) k).j = j
    rw [e2]
    exact e
  obtain ⟨K, h1, h2, h3⟩ := st_least (p := fun k => p (way m h k)) k (show p (way m h k) by rw [e3]; exact hp)
  exact ⟨K, Nat.lt_of_le_of_lt h1 (by unfold SetTable.turns; omega), h2, h3⟩
/-- what has a hash lies on its way with no gap before it -/
structure Fnd (t : SetTable) (hs : List Int) : Prop where
  msk : Mk t.mask
  up : Ris t.place.toList
  none : t.dummies = #[]
  len : t.place.toList.length = hs.length
  inn : ∀ x ∈ t.place.toList, x ≤ t.mask
  way : ∀ (i : Nat) (h : Int) (j : Nat), hs[i]? = some h → t.place.toList[i]? = some j → ∃ k, way t.mask h k = j ∧ ∀ k', k' < k → L2.way t.mask h k' ∈ t.place.toList
theorem Fnd.gap (T : Fnd t hs) (hl : hs.length ≤ t.mask) (h : Int) : ∃ K, K < 10 * SetTable.turns t.mask ∧ L2.way t.mask h K ∉ t.place.toList ∧ ∀ k, k < K → L2.way t.mask h k ∈ t.place.toList := by
  obtain ⟨j, hj, hn⟩ := st_missing t.place.toList (t.mask + 1) (by rw [T.len]; omega)
  obtain ⟨K, h1, h2, h3⟩ := least_step (p := fun x => x ∉ t.place.toList) T.msk h (Nat.le_of_lt_succ hj) hn
  exact ⟨K, h1, h2, fun k hk => Classical.not_not.mp (h3 k hk)⟩
/-- what has the hash lies before the gap -/
theorem Fnd.ahead (T : Fnd t hs) (hK : L2.way t.mask h K ∉ t.place.toList) {i j : Nat} (hi : hs[i]? = some h) (hj : t.place.toList[i]? = some j) : ∃ k, k < K ∧ L2.way t.mask h k = j := by
  obtain ⟨k, e, g⟩ := T.way i h j hi hj
  refine ⟨k, Nat.lt_of_not_le fun hle => ?_, e⟩
  rcases Nat.lt_or_eq_of_le hle with c | c
  · exact hK (g K c)
  · rw [c, e] at hK
    exact hK (List.mem_of_getElem? hj)
/-- one put into the gap -/
theorem Fnd.put (T : Fnd t hs) (hK : L2.way t.mask h K ∉ t.place.toList) (hb : ∀ k, k < K → L2.way t.mask h k ∈ t.place.toList) :
    ∃ p, t.put (L2.way t.mask h K) = ((t.put (L2.way t.mask h K)).1, p) ∧ p ≤ hs.length ∧ Fnd (t.put (L2.way t.mask h K)).1 (hs.take p ++ h :: hs.drop p) ∧
      (t.put (L2.way t.mask h K)).1.mask = t.mask ∧ (t.put (L2.way t.mask h K)).1.led = t.led ∧ (t.put (L2.way t.mask h K)).1.plain = t.plain ∧ (t.put (L2.way t.mask h K)).1.fill = hs.length + 1 := by
  have hin : L2.way t.mask h K ≤ t.mask := in_table
  generalize hj : L2.way t.mask h K = j at hK hin ⊢
  have hp : SetTable.below t.place j ≤ t.place.toList.length := by
    obtain ⟨c, _, _⟩ := below_cut T.up j
    rwa [Array.length_toList]
  have hp' : SetTable.below t.place j ≤ hs.length := T.len ▸ hp
  have e := put_place t j
  have sub : ∀ x, x ∈ t.place.toList → x ∈ (t.put j).1.place.toList := fun x hx => by rw [e]; exact mem_ins.mpr (.inr hx)
  have hlen : (t.put j).1.place.toList.length = hs.length + 1 := by rw [e, len_ins _ hp, T.len]
  refine ⟨SetTable.below t.place j, rfl, hp', ⟨T.msk, ris_insert T.up fun z => hK (List.mem_of_getElem? (by rw [Array.getElem?_toList]; exact z)), put_dm T.none j, by rw [hlen, len_ins _ hp'], fun x hx => ?_, fun i h' j' h1 h2 => ?_⟩, rfl, rfl, rfl, ?_⟩
  · rw [e] at hx
    rcases mem_ins.mp hx with rfl | hx
    · exact hin
    · exact T.inn x hx
  · show ∃ k, L2.way t.mask h' k = j' ∧ ∀ k', k' < k → L2.way t.mask h' k' ∈ (t.put j).1.place.toList
    rw [tins_get hs hp'] at h1
    rw [e, tins_get _ hp] at h2
    have old : ∀ i', hs[i']? = some h' → t.place.toList[i']? = some j' → ∃ k, L2.way t.mask h' k = j' ∧ ∀ k', k' < k → L2.way t.mask h' k' ∈ (t.put j).1.place.toList := fun i' a b => by
      obtain ⟨k, q, r⟩ := T.way i' h' j' a b
      exact ⟨k, q, fun k' hk' => sub _ (r k' hk')⟩
    split at h1
    · rename_i c
      rw [if_pos c] at h2
      exact old i h1 h2
    · rename_i c
      rw [if_neg c] at h2
      split at h1
      · rename_i d
        rw [if_pos d] at h2
        cases h1
        cases h2
        exact ⟨K, hj, fun k' hk' => sub _ (hb k' hk')⟩
      · rename_i d
        rw [if_neg d] at h2
        exact old (i - 1) h1 h2
  · show (t.put j).1.place.size + (t.put j).1.dummies.size = _
    rw [put_dm T.none j, ← Array.length_toList, hlen]
    rfl
/-- the first free place of the way is what is found -/
theorem free_at (W : Mk m) (owner : Array (Option Nat)) (h : Int) {j : Nat} (hj : j ≤ m) (hf : oAt owner j = none) :
    ∃ K, SetTable.layClean.free m owner (SetTable.turns m) (SetTable.bits h % (m + 1)) (SetTable.bits h) = some (way m h K) ∧ oAt owner (way m h K) = none ∧ ∀ k, k < K → oAt owner (way m h k) ≠ none := by
  obtain ⟨n, hn, e⟩ := begins W h hj
  have e1 : way m h (off m (SetTable.bits h % (m + 1)) (SetTable.bits h) n) = j := by
    show (nth m _ _).j = j
    rw [nth_off, itL_run]
    exact e
  obtain ⟨K, k1, k2, k3⟩ := st_least (p := fun k => oAt owner (way m h k) = none) _ (show oAt owner (way m h (off m (SetTable.bits h % (m + 1)) (SetTable.bits h) n)) = none by rw [e1]; exact hf)
  refine ⟨K, free_spec m owner _ n _ _ K (by unfold SetTable.turns; omega) k1 (fun k hk => ?_) (by rw [show oAt owner (nth m _ K).j = none from k2]; rfl), k2, k3⟩
  cases q : oAt owner (nth m (runAt m (SetTable.bits h % (m + 1)) (SetTable.bits h)) k).j with
  | none => exact absurd q (k3 k hk)
  | some _ => rfl
/-- one more laid -/
theorem lay_one (W : Mk m) {done : List Int} {owner : Array (Option Nat)} (O : Own m done owner) (hl : done.length ≤ m) (h : Int) :
    ∃ owner', stepF m (some (owner, done.length)) h = some (owner', (done ++ [h]).length) ∧ Own m (done ++ [h]) owner' := by
  obtain ⟨ps, p1, p2⟩ := O.ps
  obtain ⟨j0, h0, n0⟩ := st_missing ps (m + 1) (by omega)
  have f0 : oAt owner j0 = none := Classical.byContradiction fun z => n0 (p2 j0 (Nat.le_of_lt_succ h0) z)
  obtain ⟨K, e1, e2, e3⟩ := free_at W owner h (Nat.le_of_lt_succ h0) f0
  have hm : way m h K ≤ m := in_table
  generalize hj : way m h K = j at e1 e2 hm
  have new : oAt (owner.setIfInBounds j (some done.length)) j = some done.length := oAt_set_self _ (by rw [O.sz]; exact Nat.lt_succ_of_le hm)
  have old : ∀ i, oAt owner i ≠ none → i ≠ j ∧ oAt (owner.setIfInBounds j (some done.length)) i = oAt owner i := fun i hi => by
    have : i ≠ j := fun z => hi (z ▸ e2)
    exact ⟨this, oAt_set_ne _ this⟩
  refine ⟨_, (stepF_some e1).trans (by rw [List.length_append]; rfl), ⟨by rw [Array.size_setIfInBounds]; exact O.sz, fun i k hi q => ?_, fun k hk => ?_, j :: ps, by rw [List.length_cons, List.length_append, p1]; rfl, fun i hi q => ?_⟩⟩
  · by_cases c : i = j
    · subst c
      rw [new] at q
      cases q
      refine ⟨h, K, by rw [List.getElem?_append_right (Nat.le_refl _), Nat.sub_self]; rfl, hj, fun k' hk' => ?_⟩
      rw [(old _ (e3 k' hk')).2]
      exact e3 k' hk'
    · rw [oAt_set_ne _ c] at q
      obtain ⟨h', K', a1, a2, a3⟩ := O.at_ i k hi q
      refine ⟨h', K', by rw [List.getElem?_append_left (List.getElem?_eq_some_iff.mp a1).1]; exact a1, a2, fun k' hk' => ?_⟩
      rw [(old _ (a3 k' hk')).2]
      exact a3 k' hk'
  · rw [List.length_append] at hk
    by_cases c : k < done.length
    · obtain ⟨i, hi, q⟩ := O.all k c
      exact ⟨i, hi, (old i (by rw [q]; exact fun z => nomatch z)).2.trans q⟩
    · have : k = done.length := by
        have : k < done.length + 1 := hk
        omega
      exact ⟨j, hm, this ▸ new⟩
  · by_cases c : i = j
    · rw [c]; exact List.mem_cons_self
    · rw [oAt_set_ne _ c] at q
      exact List.mem_cons_of_mem _ (p2 i hi q)
theorem lay_all (W : Mk m) : ∀ (rest done : List Int) (owner : Array (Option Nat)), Own m done owner → done.length + rest.length ≤ m →
    ∃ owner', rest.foldl (stepF m) (some (owner, done.length)) = some (owner', (done ++ rest).length) ∧ Own m (done ++ rest) owner'
  | [], done, owner, O, _ => ⟨owner, by rw [List.append_nil]; rfl, by rw [List.append_nil]; exact O⟩
  | h :: rest, done, owner, O, hl => by
    have hl' : done.length + (rest.length + 1) ≤ m := hl
    obtain ⟨o1, e1, O1⟩ := lay_one W O (by omega) h
    obtain ⟨o2, e2, O2⟩ := lay_all W rest (done ++ [h]) o1 O1 (by rw [List.length_append]; show done.length + 1 + _ ≤ _; omega)
    have e : done ++ [h] ++ rest = done ++ h :: rest := by rw [List.append_assoc]; rfl
    rw [e] at e2 O2
    exact ⟨o2, by rw [List.foldl_cons, e1, e2], O2⟩
theorem lay_ok (W : Mk m) {hs : Array Int} (hn : hs.size ≤ m) : ∃ owner, SetTable.layClean m hs = some owner ∧ Own m hs.toList owner := by
  obtain ⟨owner, e, O⟩ := lay_all W hs.toList [] _ (Own.init m) (by rw [Array.length_toList]; show 0 + hs.size ≤ m; omega)
  rw [List.nil_append] at O
  refine ⟨owner, ?_, O⟩
  rw [layClean_eq, show (some (Array.replicate (m + 1) none, 0) : Option (Array (Option Nat) × Nat)) = some (Array.replicate (m + 1) none, ([] : List Int).length) from rfl, e]
  rfl
/-- the live places and who lies there -/
theorem live_len {owner : Array (Option Nat)} {hs : Array Int} (O : Own m hs.toList owner) : (liveOf m owner).length = hs.size ∧ Ris ((liveOf m owner).map (·.1)) ∧ ((liveOf m owner).map (·.2)).Perm (List.range hs.size) := by
  have up : Ris ((liveOf m owner).map (·.1)) := (ris_live (fun j => owner.getD j none) (List.range (m + 1)) (by unfold Ris; exact List.pairwise_lt_range)).1
  obtain ⟨ps, p1, p2⟩ := O.ps
  have all : ∀ k ∈ List.range hs.size, k ∈ (liveOf m owner).map (·.2) := fun k hk => by
    obtain ⟨j, b1, b2⟩ := O.all k (by rw [Array.length_toList]; exact List.mem_range.mp hk)
    exact List.mem_map.mpr ⟨(j, k), (mem_live O.sz).mpr ⟨b1, b2⟩, rfl⟩
  have nd : ((liveOf m owner).map (·.1)).Nodup := by
    unfold Ris at up
    exact List.Pairwise.imp (fun h => Nat.ne_of_lt h) up
  have le1 := nat_nodup_len ((liveOf m owner).map (·.1)) ps nd fun x hx => by
    obtain ⟨⟨y, k⟩, hq, rfl⟩ := List.mem_map.mp hx
    obtain ⟨b1, b2⟩ := (mem_live O.sz).mp hq
    exact p2 y b1 (by rw [b2]; exact fun z => nomatch z)
  have le2 := nat_nodup_len (List.range hs.size) _ List.nodup_range all
  rw [List.length_map, p1, Array.length_toList] at le1
  rw [List.length_map, List.length_range] at le2
  have e : (liveOf m owner).length = hs.size := Nat.le_antisymm le1 le2
  exact ⟨e, up, perm_range _ _ (by rw [List.length_map, e]) fun k hk => all k (List.mem_range.mpr hk)⟩
theorem relaid_fnd (t : SetTable) {hs : Array Int} {wanted : Nat} (hw : SetTable.sizeAbove wanted - 1 = m) (W : Mk m) (hn : hs.size ≤ m) :
    ∃ t' order, t.relaid hs wanted = some (t', order) ∧ order.toList.Perm (List.range hs.size) ∧ Fnd t' (order.toList.map fun i => hs.getD i 0) ∧ t'.mask = m ∧ t'.led = t.led ∧ t'.plain = t.plain := by
  obtain ⟨owner, e, O⟩ := lay_ok W hn
  obtain ⟨hl, up, pm⟩ := live_len O
  refine ⟨tabOf t m owner, ((liveOf m owner).map (·.2)).toArray, by rw [relaid_eq, hw, e]; rfl, pm, ⟨W, up, rfl, ?_, fun x hx => ?_, fun i h j h1 h2 => ?_⟩, rfl, rfl, rfl⟩
  · show ((liveOf m owner).map (·.1)).length = (((liveOf m owner).map (·.2)).map fun i => hs.getD i 0).length
    rw [List.length_map, List.length_map, List.length_map]
  · have hx' : x ∈ (liveOf m owner).map (·.1) := hx
    obtain ⟨⟨y, k⟩, hq, rfl⟩ := List.mem_map.mp hx'
    exact ((mem_live O.sz).mp hq).1
  · have h1' : (((liveOf m owner).map (·.2)).map fun i => hs.getD i 0)[i]? = some h := h1
    have h2' : ((liveOf m owner).map (·.1))[i]? = some j := h2
    rw [List.getElem?_map, List.getElem?_map] at h1'
    rw [List.getElem?_map] at h2'
    obtain ⟨⟨y, k⟩, hq⟩ : ∃ q, (liveOf m owner)[i]? = some q := by
      cases hq : (liveOf m owner)[i]? with
      | none => rw [hq] at h2'; cases h2'
      | some q => exact ⟨q, rfl⟩
    rw [hq] at h1' h2'
    have ej : y = j := Option.some.inj h2'
    have eh : hs.getD k 0 = h := Option.some.inj h1'
    subst ej
    obtain ⟨b1, b2⟩ := (mem_live O.sz).mp (List.mem_of_getElem? hq)
    obtain ⟨h0, K, a1, a2, a3⟩ := O.at_ y k b1 b2
    have e0 : h0 = h := by
      rw [← eh, Array.getD_eq_getD_getElem?, ← Array.getElem?_toList, a1]
      rfl
    subst e0
    refine ⟨K, a2, fun k' hk' => ?_⟩
    cases q : oAt owner (way m h0 k') with
    | none => exact absurd q (a3 k' hk')
    | some x => exact List.mem_map.mpr ⟨(way m h0 k', x), (mem_live O.sz).mpr ⟨in_table, q⟩, rfl⟩
end
end VW
set_option maxRecDepth 100000
namespace VW
open PySem L2 PySem.Spec PyProof.Rows
/-- the state of a search, so many steps on -/
abbrev pr (m : Nat) (h : Int) (c : Nat) : SetTable.Probe := nth m (runAt m (SetTable.bits h % (m + 1)) (SetTable.bits h)) c
theorem pr_on (m : Nat) (h : Int) (c q : Nat) : nth m (pr m h c) q = pr m h (c + q) := (nth_add m c _ q).symm
theorem pr_clean (m : Nat) (h : Int) : ∀ c, (pr m h c).dummy = none
  | 0 => rfl
  | c + 1 => by
    have ih := pr_clean m h c
    show (nth m _ (c + 1)).dummy = none
    rw [nth_succ]
    unfold adv
    split
    · exact ih
    · exact ih
section
variable {P : Program} {w : World} {A : Around} {E : Value → Shared → Prop} {s : Shared} {a : Addr} {L : List (Addr × List Int)} {es : Array (Int × Value)} {ep : Nat} {t : SetTable}
/-- the set at a has the tuples L, in the order of their places -/
structure Tups (P : Program) (w : World) (h : Heap) (a : Addr) (L : List (Addr × List Int)) (es : Array (Int × Value)) (ep : Nat) (t : SetTable) : Prop where
  obj : ∃ o, h.get? a = some o ∧ o.ExactSet ∧ o.data = .set es ep t
  row : es.toList = rowsOf P w L
  fnd : Fnd t (L.map fun p => thash P w p.2)
  once : (L.map (·.2)).Nodup
  each : ∀ p ∈ L, IsT P w h p.2 p.1
  plain : t.plain = true
  room : L.length * 5 < t.mask * 3
theorem Tups.size (R : Tups P w s.heap a L es ep t) : es.size = L.length := by
  rw [← Array.length_toList, R.row]
  unfold rowsOf
  rw [List.length_map]
theorem Tups.places (R : Tups P w s.heap a L es ep t) : t.place.toList.length = L.length := by rw [R.fnd.len, List.length_map]
theorem fits_of (hd : t.dummies = #[]) (hz : t.place.size = es.size) (hl : es.size ≤ t.mask) : t.fits es.size = true := by
  unfold SetTable.fits SetTable.fill
  rw [hd, Bool.and_eq_true, beq_iff_eq, decide_eq_true_eq]
  exact ⟨hz, by rw [hz]; exact hl⟩
theorem Tups.fits (R : Tups P w s.heap a L es ep t) : t.fits es.size = true := by
  have h1 := R.places
  have h2 := R.size
  have h3 := R.room
  rw [Array.length_toList] at h1
  exact fits_of R.fnd.none (h1.trans h2.symm) (by omega)
theorem Tups.at (R : Tups P w s.heap a L es ep t) {i : Nat} {p : Addr × List Int} (h : L[i]? = some p) : es[i]? = some (thash P w p.2, Value.ref p.1) := by
  rw [← Array.getElem?_toList, R.row]
  unfold rowsOf
  rw [List.getElem?_map, h]
  rfl
theorem steady (h : Mk t.mask) : ¬ t.gaveWay = true := by
  unfold SetTable.gaveWay
  rw [h.odd]
  decide
/-- the search for a key, from some step of its way on -/
theorem seek (R : Tups P w s.heap a L es ep t) {x : Addr} {k : List Int} (hx : IsT P w s.heap k x) (hu : A.units < cLine) {K : Nat} (hf : K < 10 * SetTable.turns t.mask)
    (gap : L2.way t.mask (thash P w k) K ∉ t.place.toList) (full : ∀ c, c < K → L2.way t.mask (thash P w k) c ∈ t.place.toList) {Q : SetFound → Shared → Prop}
    (yes : k ∈ L.map (·.2) → Q (.there none) s) (no : k ∉ L.map (·.2) → Q (.free (L2.way t.mask (thash P w k) K) false) s) :
    ∀ (fuel c : Nat) (at_ : Option SetTable.Probe), at_.getD (t.probeStart (thash P w k)) = pr t.mask (thash P w k) c → c ≤ K → K < c + fuel →
      (∀ (i : Nat) p, L[i]? = some p → p.2 = k → ∃ b, c ≤ b ∧ b < K ∧ t.place.toList[i]? = some (L2.way t.mask (thash P w k) b)) → wpAny (model P w) A (setSearchFrom a (.ref x) (thash P w k) true fuel at_) Q E s := by
  obtain ⟨o, ho, hex, hd⟩ := R.obj
  have hashes : ∀ (i : Nat) p, L[i]? = some p → (fun i => (es[i]?.map (·.1)).getD 0) i = thash P w p.2 := fun i p hp => by
    show (es[i]?.map (·.1)).getD 0 = _
    rw [R.at hp]
    rfl
  intro fuel
  induction fuel with
  | zero => intro c at_ _ h1 h2; exact absurd h2 (by omega)
  | succ fuel ih =>
    intro c at_ hat h1 h2 hre
    rw [setSearchFrom_succ]
    refine wpAny_bind (wpAny_setState_of ho hd R.fits ?_)
    dsimp only
    refine wp_if_neg (steady R.fnd.msk) ?_
    have jj : ∀ q, (nth t.mask (pr t.mask (thash P w k) c) q).j = L2.way t.mask (thash P w k) (c + q) := fun q => congrArg SetTable.Probe.j (pr_on _ _ c q)
    have met := go_spec t R.fnd.up R.fnd.none (fun i => (es[i]?.map (·.1)).getD 0) (thash P w k) (10 * SetTable.turns t.mask) (K - c) (pr t.mask (thash P w k) c) (pr_clean _ _ c) (by omega)
      (fun q hq => by rw [jj]; exact full (c + q) (by omega)) (by rw [jj, show c + (K - c) = K by omega]; exact gap)
    rcases met with ⟨q, i, q1, q2, q3, q4, q5⟩ | ⟨q4, q5⟩
    · -- something with the hash lies on the way
      have hp : t.probe (fun i => (es[i]?.map (·.1)).getD 0) (thash P w k) (at_.getD (t.probeStart (thash P w k))) = some (.candidate (L2.way t.mask (thash P w k) (c + q)) i (pr t.mask (thash P w k) (c + (q + 1)))) := by
        rw [hat, ← jj, ← pr_on]
        exact q5
      rw [hp]
      dsimp only
      rw [jj] at q2
      have il : i < L.length := by
        rw [← R.places]
        exact (List.getElem?_eq_some_iff.mp q2).1
      obtain ⟨p, hLi⟩ : ∃ p, L[i]? = some p := ⟨_, List.getElem?_eq_getElem il⟩
      have pm : p ∈ L := List.mem_of_getElem? hLi
      have live : t.slot (L2.way t.mask (thash P w k) (c + q)) = .live i := slot_live R.fnd.up q2
      have goon : wpAny (model P w) A (searchRest a (.ref x) (thash P w k) true fuel es t (L2.way t.mask (thash P w k) (c + q)) i (pr t.mask (thash P w k) (c + (q + 1)))) Q E s := by
        unfold searchRest
        rw [R.at hLi]
        dsimp only
        refine wpAny_bind (wpAny_holding (wpAny_eqBool_tuple hu (R.each p pm) hx ?_))
        refine wpAny_bind (wpAny_setState_of ho hd R.fits ?_)
        dsimp only
        by_cases e : p.2 = k
        · exact wp_if_pos (by simp [e]) (wpAny_pure (yes (List.mem_map.mpr ⟨p, pm, e⟩)))
        · refine wp_if_neg (by simp [e]) ?_
          rw [sameMem]
          simp only [if_true, live, R.at hLi]
          refine wpAny_bind (wpAny_isSame_ref_self (wpAny_bind (wpAny_pure ?_)))
          simp only [if_true]
          refine wp_if_neg (by simp [e]) ?_
          refine ih (c + (q + 1)) (some (pr t.mask (thash P w k) (c + (q + 1)))) rfl (by omega) (by omega) fun i0 p0 g1 g2 => ?_
          obtain ⟨b, b1, b2, b3⟩ := hre i0 p0 g1 g2
          refine ⟨b, Nat.lt_of_not_le fun hle => ?_, b2, b3⟩
          have hle' : b ≤ c + q := hle
          have hb : b - c < q ∨ b = c + q := by omega
          rcases hb with hb | hb
          · exact q4 (b - c) i0 hb (by rw [jj, show c + (b - c) = b by omega]; exact b3) ((hashes i0 p0 g1).trans (congrArg (thash P w) g2))
          · subst hb
            have := slot_live R.fnd.up b3
            rw [live] at this
            cases this
            rw [hLi] at g1
            cases g1
            exact e g2
      by_cases hl : t.led = true
      · exact wp_if_neg (by simp [hl]) goon
      · refine wp_if_pos (by simp [hl]) (wpAny_bind (seen_tup hx (fun y hy => ?_) (wp_if_neg (by decide) goon)))
        obtain ⟨e, he, rfl⟩ := List.mem_map.mp hy
        have he' : e ∈ es.toList := by
          have : e ∈ es ∧ e.1 = thash P w k := by simpa using he
          simpa using this.1
        rw [R.row] at he'
        obtain ⟨p2, hp2, rfl⟩ := List.mem_map.mp he'
        exact ⟨p2.2, p2.1, rfl, R.each p2 hp2⟩
    · -- the gap
      have hp : t.probe (fun i => (es[i]?.map (·.1)).getD 0) (thash P w k) (at_.getD (t.probeStart (thash P w k))) = some (.empty (L2.way t.mask (thash P w k) K) none) := by
        rw [hat, show L2.way t.mask (thash P w k) K = (nth t.mask (pr t.mask (thash P w k) c) (K - c)).j by rw [jj, show c + (K - c) = K by omega]]
        exact q5
      rw [hp]
      refine wpAny_pure (no fun hm => ?_)
      obtain ⟨p0, g0, g2⟩ := List.mem_map.mp hm
      obtain ⟨i0, g1⟩ := List.getElem?_of_mem g0
      obtain ⟨b, b1, b2, b3⟩ := hre i0 p0 g1 g2
      exact q4 (b - c) i0 (by omega) (by rw [jj, show c + (b - c) = b by omega]; exact b3) ((hashes i0 p0 g1).trans (congrArg (thash P w) g2))
theorem seek_all (R : Tups P w s.heap a L es ep t) {x : Addr} {k : List Int} (hx : IsT P w s.heap k x) (hu : A.units < cLine) {Q : SetFound → Shared → Prop} (yes : k ∈ L.map (·.2) → Q (.there none) s)
    (no : ∀ K, k ∉ L.map (·.2) → L2.way t.mask (thash P w k) K ∉ t.place.toList → (∀ c, c < K → L2.way t.mask (thash P w k) c ∈ t.place.toList) → Q (.free (L2.way t.mask (thash P w k) K) false) s) :
    wpAny (model P w) A (setSearch a (.ref x) (thash P w k) true) Q E s := by
  have h0 := R.room
  obtain ⟨K, h1, h2, h3⟩ := R.fnd.gap (by rw [List.length_map]; omega) (thash P w k)
  have h4 : 10 * SetTable.turns t.mask < 100000 := by
    have := R.fnd.msk.le
    unfold SetTable.turns
    omega
  refine seek R hx hu h1 h2 h3 yes (fun hn => no K hn h2 h3) 100000 0 none rfl (Nat.zero_le _) (by omega) fun i p hp hk => ?_
  have il : i < t.place.toList.length := by
    rw [R.places]
    exact (List.getElem?_eq_some_iff.mp hp).1
  have hj := List.getElem?_eq_getElem il
  obtain ⟨b, b1, b2⟩ := R.fnd.ahead h2 (i := i) (by rw [List.getElem?_map, hp, ← hk]; rfl) hj
  exact ⟨b, Nat.zero_le _, b1, by rw [hj, b2]⟩
/-- the sizes that come -/
theorem next_size (n : Nat) : (n = 5 → SetTable.sizeAbove (SetTable.grown n) = 32) ∧ (n = 19 → SetTable.sizeAbove (SetTable.grown n) = 128) ∧ (n = 77 → SetTable.sizeAbove (SetTable.grown n) = 512) :=
  ⟨fun h => by subst h; decide +kernel, fun h => by subst h; decide +kernel, fun h => by subst h; decide +kernel⟩
/-- what the tuples' set holds, its table perhaps too full -/
structure Laid (P : Program) (w : World) (h : Heap) (a : Addr) (L : List (Addr × List Int)) (es : Array (Int × Value)) (ep : Nat) (t : SetTable) : Prop where
  obj : ∃ o, h.get? a = some o ∧ o.ExactSet ∧ o.data = .set es ep t
  row : es.toList = rowsOf P w L
  fnd : Fnd t (L.map fun p => thash P w p.2)
  once : (L.map (·.2)).Nodup
  each : ∀ p ∈ L, IsT P w h p.2 p.1
  plain : t.plain = true
theorem grow {m wanted : Nat} (R : Laid P w s.heap a L es ep t) (hl : L.length ≤ t.mask) (hw : SetTable.sizeAbove wanted = m + 1) (W : Mk m) (hm : L.length * 5 < m * 3) {Q : Unit → Shared → Prop}
    (h : ∀ h' L' es' ep' t', Heap.SameBut a s.heap h' → Tups P w h' a L' es' ep' t' → L'.Perm L → Q () { s with heap := h' }) : wpAny (model P w) A (setRelay a wanted) Q E s := by
  obtain ⟨o, ho, hex, hd⟩ := R.obj
  have hz : es.size = L.length := by
    rw [← Array.length_toList, R.row]
    unfold rowsOf
    rw [List.length_map]
  have hpl : t.place.size = es.size := by
    have := R.fnd.len
    rw [Array.length_toList, List.length_map] at this
    rw [this, hz]
  obtain ⟨t', order, e1, e2, e3, e4, e5, e6⟩ := relaid_fnd t (hs := es.map (·.1)) (wanted := wanted) (m := m) (by rw [hw]; rfl) W (by rw [Array.size_map, hz]; omega)
  rw [Array.size_map, hz] at e2
  obtain ⟨L2, r1, r2, r3⟩ := order_rows L es order R.row e2
  rw [← r3] at e3
  have hsame : (order.filterMap (es[·]?)).size = es.size := by
    rw [← Array.length_toList, r1, hz, ← r2.length_eq]
    unfold rowsOf
    rw [List.length_map]
  have big : m + 1 ≤ sizeLine := by
    rw [sizeLine_eq]
    have := W.le
    omega
  rw [setRelay_eq]
  refine wpAny_bind (wpAny_setState_of ho hd (fits_of R.fnd.none hpl (by omega)) ?_)
  dsimp only
  refine wp_if_neg (by rw [hw]; omega) ?_
  rw [e1]
  dsimp only
  refine wpAny_bind (wp_if_neg (by rw [hsame]; simp) (wpAny_pure ?_))
  dsimp only
  refine wpAny_storeSet_of ho hd ?_ (by rw [hsame]; omega)
  have sb : Heap.SameBut a s.heap (s.heap.update a (Obj.putSet (order.filterMap (es[·]?)) t')) := Heap.SameBut.update ..
  exact h _ L2 _ (ep + 1) t' sb ⟨⟨_, store_at ho hd, hex, rfl⟩, r1, e3, (r2.map (·.2)).nodup_iff.mpr R.once, fun p hp => isT_same (R.each p (r2.mem_iff.mp hp)) ho hd sb, e6.trans R.plain, by rw [r2.length_eq, e4]; exact hm⟩ r2
theorem join (R : Tups P w s.heap a L es ep t) {x : Addr} {k : List Int} (hx : IsT P w s.heap k x) (hu : A.units < cLine) (few : L.length < 200) {Q : Bool → Shared → Prop}
    (h : ∀ b h' L' es' ep' t', Heap.SameBut a s.heap h' → Tups P w h' a L' es' ep' t' → (k ∈ L.map (·.2) → L' = L) → (k ∉ L.map (·.2) → L'.Perm ((x, k) :: L)) → Q b { s with heap := h' }) :
    wpAny (model P w) A (setAddHashed a (.ref x) (thash P w k)) Q E s := by
  obtain ⟨o, ho, hex, hd⟩ := R.obj
  have hz := R.size
  have hr := R.room
  unfold setAddHashed
  refine wpAny_holding ?_
  rw [show (100000 : Nat) = 99999 + 1 from rfl, setAddHashedIn_succ]
  refine wpAny_bind (wpAny_setState_of ho hd R.fits ?_)
  dsimp only
  refine wp_if_neg (by simp [byScan, Value.scannable]) ?_
  refine wpAny_bind (seek_all R hx hu (fun hm => wpAny_pure (h false s.heap L es ep t (Heap.SameBut.refl a s.heap) R (fun _ => rfl) fun z => absurd hm z)) fun K hm gap full => ?_)
  dsimp only
  refine wpAny_bind (wpAny_setState_of ho hd R.fits ?_)
  dsimp only
  obtain ⟨p, p1, p2, p3, p4, p5, p6, p7⟩ := R.fnd.put gap full
  generalize ht1 : (t.put (L2.way t.mask (thash P w k) K)).1 = t1 at p1 p3 p4 p5 p6 p7
  rw [p1]
  dsimp only
  have pl1 : t1.plain = true := p6.trans R.plain
  refine wp_if_pos pl1 (wpAny_bind (hashBy_tup hx ?_))
  simp only [if_true]
  have pm := put_perm L p (x, k)
  have row1 : (SetTable.insertAt es p (thash P w k, Value.ref x)).toList = rowsOf P w (L.take p ++ (x, k) :: L.drop p) := by rw [SetTable.toList_insertAt, rows_put, R.row]
  have fnd1 : Fnd t1 ((L.take p ++ (x, k) :: L.drop p).map fun p => thash P w p.2) := by
    rw [List.map_append, List.map_cons, List.map_take, List.map_drop]
    exact p3
  have once1 : ((L.take p ++ (x, k) :: L.drop p).map (·.2)).Nodup := (pm.map (·.2)).nodup_iff.mpr (List.nodup_cons.mpr ⟨hm, R.once⟩)
  have len1 := pm.length_eq
  rw [List.length_cons] at len1
  rw [List.length_map] at p7
  generalize hes : SetTable.insertAt es p (thash P w k, Value.ref x) = es1 at row1
  have size1 : es1.size = L.length + 1 := by
    rw [← Array.length_toList, row1, ← len1]
    unfold rowsOf
    rw [List.length_map]
  generalize L.take p ++ (x, k) :: L.drop p = L1 at pm row1 fnd1 once1 len1
  refine wpAny_bind (wpAny_storeSet_of ho hd ?_ (by rw [size1, sizeLine_eq]; omega))
  have sb : Heap.SameBut a s.heap (s.heap.update a (Obj.putSet es1 t1)) := Heap.SameBut.update ..
  have at1 := store_at (es' := es1) (t' := t1) ho hd
  generalize s.heap.update a (Obj.putSet es1 t1) = h1 at sb at1 ⊢
  have each1 : ∀ q ∈ L1, IsT P w h1 q.2 q.1 := fun q hq => by
    rcases List.mem_cons.mp (pm.mem_iff.mp hq) with rfl | hq
    · exact isT_same hx ho hd sb
    · exact isT_same (R.each q hq) ho hd sb
  have laid : Laid P w h1 a L1 es1 (ep + 1) t1 := ⟨⟨_, at1, hex, rfl⟩, row1, fnd1, once1, each1, pl1⟩
  have full1 : t1.tooFull = decide ((L.length + 1) * 5 ≥ t1.mask * 3) := by
    unfold SetTable.tooFull
    rw [p7]
  by_cases hf : (L.length + 1) * 5 ≥ t.mask * 3
  · refine wp_if_pos (show (!false && t1.tooFull) = true by rw [full1, p4, decide_eq_true hf]; rfl) (wpAny_bind ?_)
    rw [hz]
    have last : ∀ {m : Nat}, SetTable.sizeAbove (SetTable.grown (L.length + 1)) = m + 1 → Mk m → (L.length + 1) * 5 < m * 3 → wpAny (model P w) A (setRelay a (SetTable.grown (L.length + 1))) (fun _ s' => wpAny (model P w) A (pure true) Q E s') E { s with heap := h1 } := fun {m} h1' W h2' =>
      grow (s := { s with heap := h1 }) laid (by rw [len1, p4]; omega) h1' W (by rw [len1]; exact h2') fun h2 L2 es2 ep2 t2 sb2 R2 pm2 => wpAny_pure (h true h2 L2 es2 ep2 t2 (sb.trans sb2) R2 (fun z => absurd z hm) fun _ => pm2.trans pm)
    have sz := next_size (L.length + 1)
    have hc : L.length + 1 = 5 ∨ L.length + 1 = 19 ∨ L.length + 1 = 77 := by rcases R.fnd.msk.four with e | e | e | e <;> omega
    rcases hc with c | c | c
    · exact last (m := 31) (sz.1 c) mk31 (by omega)
    · exact last (m := 127) (sz.2.1 c) mk127 (by omega)
    · exact last (m := 511) (sz.2.2 c) mk511 (by omega)
  · refine wp_if_neg (show ¬ (!false && t1.tooFull) = true by rw [full1, p4, decide_eq_false hf]; decide) ?_
    exact wpAny_pure (h true h1 L1 es1 (ep + 1) t1 sb ⟨laid.obj, row1, fnd1, once1, each1, pl1, by rw [len1, p4]; omega⟩ (fun z => absurd z hm) fun _ => pm)
end
end VW
set_option maxRecDepth 100000
namespace VW
open PySem L2 PySem.Spec PyProof.Rows
section
variable {P : Program} {w : World} {A : Around} {E : Value → Shared → Prop} {s : Shared} {a : Addr} {L : List (Addr × List Int)} {es : Array (Int × Value)} {ep : Nat} {t : SetTable}
theorem Tups.moved {h h' : Heap} (R : Tups P w h a L es ep t) (ha : ∀ o, h.get? a = some o → h'.get? a = some o) (ht : ∀ p ∈ L, IsT P w h' p.2 p.1) : Tups P w h' a L es ep t := by
  obtain ⟨o, ho, r⟩ := R.obj
  exact ⟨⟨o, ha o ho, r⟩, R.row, R.fnd, R.once, ht, R.plain, R.room⟩
/-- the set has the first i, each key once -/
structure Has (ks : List (Addr × List Int)) (i : Nat) (L : List (Addr × List Int)) : Prop where
  key : ∀ x, x ∈ L.map (·.2) ↔ x ∈ (ks.take i).map (·.2)
  sub : ∀ p ∈ L, p ∈ ks
  len : L.length ≤ i
theorem take_one {α : Type} {l : List α} {i : Nat} {x : α} (h : l[i]? = some x) : l.take (i + 1) = l.take i ++ [x] := by
  rw [List.take_add_one, h]
  rfl
theorem Has.next {ks L' : List (Addr × List Int)} {i : Nat} {x : Addr × List Int} (g : Has ks i L) (h : ks[i]? = some x) (c1 : x.2 ∈ L.map (·.2) → L' = L) (c2 : x.2 ∉ L.map (·.2) → L'.Perm (x :: L)) : Has ks (i + 1) L' := by
  have kk : ∀ y, y ∈ (ks.take (i + 1)).map (·.2) ↔ y ∈ (ks.take i).map (·.2) ∨ y = x.2 := fun y => by
    rw [take_one h, List.map_append, List.mem_append]
    exact or_congr Iff.rfl (by rw [List.map_cons, List.map_nil, List.mem_singleton])
  by_cases c : x.2 ∈ L.map (·.2)
  · rw [c1 c]
    refine ⟨fun y => ?_, g.sub, Nat.le_succ_of_le g.len⟩
    rw [kk, ← g.key]
    exact ⟨.inl, fun z => z.elim id fun e => e ▸ c⟩
  · have pm := c2 c
    refine ⟨fun y => ?_, fun p hp => ?_, by rw [pm.length_eq]; exact Nat.succ_le_succ g.len⟩
    · rw [kk, ← g.key, (pm.map (·.2)).mem_iff, List.map_cons, List.mem_cons]
      exact Or.comm
    · rcases List.mem_cons.mp (pm.mem_iff.mp hp) with rfl | hp
      · exact List.mem_of_getElem? h
      · exact g.sub p hp
/-- the loop that puts in what is walked -/
theorem fill {I : Addr} {fp wr : List Addr} {G : Array GenState → Array GenState → Prop} {n : Nat} {Pv : Nat → Value → Prop} {St : Nat → Shared → Prop} {R : Result → Shared → Prop}
    (W : WalksS P w A.in1 I fp wr G n Pv St) (hu : A.in1.units < cLine) (S : Addr) (hSf : S ∉ fp) (ks : List (Addr × List Int)) (few : ks.length < 200) (hn : n = ks.length) (hval : ∀ i v, Pv i v → ∃ p, ks[i]? = some p ∧ v = .ref p.1)
    (h0 : Heap) (hk : ∀ p ∈ ks, IsT P w h0 p.2 p.1) (hS0 : h0.get? S = none) (hw0 : ∀ b ∈ wr, h0.get? b = none) (k : Nat) :
    ∀ (i : Nat) (s : Shared), i + k = n → St i s → (∀ b o, h0.get? b = some o → s.heap.get? b = some o) → (∃ L es ep t, Tups P w s.heap S L es ep t ∧ Has ks i L) →
      (∀ s' L es ep t, Moved (S :: wr) G s s' → Tups P w s'.heap S L es ep t → Has ks n L → (∀ b o, h0.get? b = some o → s'.heap.get? b = some o) → R (.ok (.ret .none)) s') →
      codeAny (model P w) A (.builtin "set.update.loop" ⟨[.ref S, .ref I], []⟩) R s := by
  have hSw : S ∉ wr := fun h => hSf (W.sub _ h)
  have wide : ∀ b ∈ wr, b ∈ S :: wr := fun b hb => List.mem_cons_of_mem _ hb
  have on : ∀ {s s' : Shared}, Moved wr G s s' → (∀ b o, h0.get? b = some o → s.heap.get? b = some o) → ∀ b o, h0.get? b = some o → s'.heap.get? b = some o := fun hm hkp b o e => by
    refine hm.heap b o (fun hb => ?_) (hkp b o e)
    rw [hw0 b hb] at e
    cases e
  induction k with
  | zero =>
    intro i s hi hst hkp ⟨L, es, ep, t, hS, g⟩ hR
    rw [Nat.add_zero] at hi
    subst hi
    refine codeAny_builtin F.entry_set_update_loop ?_
    rw [Around.under_plainId F.plain_set_update_loop _]
    refine wpAny_bind (W.done s _ _ hst fun s' hm => ?_)
    have hkp' := on hm hkp
    exact wpAny_pure (hR s' L es ep t (hm.mono wide) (hS.moved (fun o e => hm.heap S o hSw e) fun p hp => isT_keep (hk p (g.sub p hp)) hkp') g hkp')
  | succ k ih =>
    intro i s hi hst hkp ⟨L, es, ep, t, hS, g⟩ hR
    refine codeAny_builtin F.entry_set_update_loop ?_
    rw [Around.under_plainId F.plain_set_update_loop _]
    refine wpAny_bind (W.item i s _ _ (by omega) hst fun v s' hP hst' hm => ?_)
    obtain ⟨p, hp, rfl⟩ := hval i v hP
    have hkp' := on hm hkp
    have hx : IsT P w s'.heap p.2 p.1 := isT_keep (hk p (List.mem_of_getElem? hp)) hkp'
    have hS' : Tups P w s'.heap S L es ep t := hS.moved (fun o e => hm.heap S o hSw e) fun q hq => isT_keep (hk q (g.sub q hq)) hkp'
    refine wpAny_bind (wpAny_holding ?_)
    unfold setAdd
    refine wpAny_holding (wpAny_bind (wpAny_pyHash_tuple hu hx ?_))
    refine join (s := { s' with toks := s'.toks + (p.2.length + 1) }) hS' hx hu (by have := g.len; omega) fun b h' L' es' ep' t' same hS2 c1 c2 => ?_
    have hkp2 : ∀ b o, h0.get? b = some o → h'.get? b = some o := fun b o e => (same.2 b fun z => by rw [z, hS0] at e; cases e).trans (hkp' b o e)
    refine wpAny_pure ⟨plainId_quiet F.plain_set_update_loop _, ih (i + 1) _ (by omega) (W.frame _ s' _ _ hst' (Nat.le_add_right _ _) fun b hb o e => (same.2 b fun h : b = S => hSf (h ▸ hb)).trans e) hkp2 ⟨L', es', ep', t', hS2, g.next hp c1 c2⟩ fun s'' L2 es2 ep2 t2 hm2 hS'' g'' hkp'' => ?_⟩
    exact hR s'' L2 es2 ep2 t2 (Moved.trans W.gtrans ((hm.mono wide).then_heap (Nat.le_add_right _ _) fun b o hb e => (same.2 b fun h : b = S => hb (h ▸ List.mem_cons_self)).trans e) hm2) hS'' g'' hkp''
end
end VW
set_option maxRecDepth 100000
namespace VL
open PySem L2 PySem.Spec PyProof.Rows
end VL
set_option maxRecDepth 100000
namespace VL
open PySem L2 PySem.Spec PyProof.Rows
theorem SmB.none {X : Cx} {pins : List (Addr × Obj)} {σ : L2.St} {H : Hp} {s : Shared} (h : SmB X.base) (I : Inv X pins σ H s) : H sysModules = none := let ⟨o, e⟩ := h; (I.bs _ _ e).2
end VL
set_option maxRecDepth 100000
set_option maxHeartbeats 2000000
namespace VL
open PySem L2 PySem.Spec PyProof.Rows
end VL
set_option maxRecDepth 100000
namespace VL
open PySem L2
section
variable {C : Cc} {π : List (Nat × V)} {e : Env} {σ : L2.St} {w : WS}
theorem Mt.sfree {i : Nat} {x : Option V} (m : Mt C π e σ w) (he : at? e i = none) (hp : ∀ p ∈ π, p.1 ≠ i) : Mt C π e (σ.set i x) w := by
  refine ⟨by rw [List.length_set]; exact m.len, m.sub, fun k b q => ?_, m.non, m.dis, fun p h => ?_⟩
  · have hk : i ≠ k := fun z => by subst z; rw [he] at q; cases q
    rw [List.getElem?_set_ne hk]
    exact m.bok k b q
  · rw [List.getElem?_set_ne (Ne.symm (hp p h))]
    exact m.pin p h
end
end VL
set_option maxRecDepth 100000
namespace VL
open PySem L2
def isSub (c d : Str) : Bool := decide (c = d) || decide (d = "OrderError") || decide (d = "ValueError")
/-- what is asked of a class of errors, computed -/
def kExc (K : PySem.W.Frag) (D : Addr) : Bool :=
  He.eqO (PySem.W.findIn K (.ref D) "__getattribute__") (some (some (.builtin "BaseException.__getattribute__"))) && He.eqO (PySem.W.findIn K (.ref D) "__getattr__") (some none) && decide (PySem.W.subIn K (.ref D) (.type "BaseException") = some true) &&
  PySem.W.hasDictIn K D && He.eqO (PySem.W.findIn K (.ref D) "__class__") (some (some (.builtin "object.__class__"))) && He.eqO (PySem.W.specialIn K (.builtin "object.__class__") "__get__") (some (some (.builtin "getset_descriptor.__get__"))) &&
  decide (PySem.W.takesIn K (.builtin "object.__class__") = some true) && decide (PySem.W.mroIn K D (.type "object") = some true)
theorem kExc_ok {K : PySem.W.Frag} {D : Addr} (h : kExc K D = true) : ExcC K D := by
  unfold kExc at h
  simp only [Bool.and_eq_true, decide_eq_true_eq] at h
  obtain ⟨⟨⟨⟨⟨⟨⟨h1, h2⟩, h3⟩, h4⟩, h5⟩, h6⟩, h7⟩, h8⟩ := h
  exact ⟨He.eqO_ok h1, He.eqO_ok h2, h3, h4, He.eqO_ok h5, He.eqO_ok h6, h7, h8⟩
def exB (cs ds : List Str) (K : PySem.W.Frag) : Bool :=
  cs.all (fun c => kExc K (He.ga K c) && ds.all (fun d => decide (PySem.W.kitOne K (.ref (He.ga K c)) (.ref (He.ga K d)) = some (isSub c d))) && decide (PySem.W.kitOne K (.ref (He.ga K c)) (.type "ValueError") = some true) && decide (PySem.W.exmOne K (.ref (He.ga K c)) (.ref (He.ga K "OrderError")) = some true)) &&
  ds.all (fun d => decide (PySem.W.kitOne K (.type "NoneType") (.ref (He.ga K d)) = some false)) && decide (PySem.W.kitOne K (.type "NoneType") (.type "ValueError") = some false)
def gAll (K : PySem.W.Frag) (mg : Str → Option Value) : List Str → Prop
  | [] => True
  | c :: r => mg c = some (.ref (He.ga K c)) ∧ gAll K mg r
theorem gAll.get {K : PySem.W.Frag} {mg : Str → Option Value} : ∀ {l : List Str} {c : Str}, gAll K mg l → c ∈ l → mg c = some (.ref (He.ga K c))
  | _ :: _, _, h, .head _ => h.1
  | _ :: r, _, h, .tail _ q => gAll.get (l := r) h.2 q
structure ExF (K : PySem.W.Frag) (mg : Str → Option Value) (cs ds : List Str) : Prop where
  ok : exB cs ds K = true
  g1 : gAll K mg cs
  g2 : gAll K mg ds
  oe : mg "OrderError" = some (.ref (He.ga K "OrderError"))
  ve : mg "ValueError" = none
section
variable {K : PySem.W.Frag} {mg : Str → Option Value} {cs ds : List Str}
theorem ExF.exc (f : ExF K mg cs ds) {c : Str} (hc : c ∈ cs) : ExcC K (He.ga K c) := by
  have h := f.ok
  unfold exB at h
  simp only [Bool.and_eq_true, List.all_eq_true, decide_eq_true_eq] at h
  exact kExc_ok (h.1.1 c hc).1.1.1
end
end VL
set_option maxRecDepth 100000
namespace VL
open PySem L2 PySem.Spec PyProof.Rows
end VL
set_option maxRecDepth 100000
namespace VL
open PySem L2 PySem.Spec PyProof.Rows
end VL
set_option maxRecDepth 100000
namespace VL
open PySem L2
section
variable {X : Cx} {ρ : Nat → Res} {W : WX} {a : Expr} {es : List Expr} {pos p : Pos} {fa : FE} {as_ : FA} {C : Cc} {π : List (Nat × V)} {e e1 e2 : Env} {σ : St} {w w0 w1 w2 : WS}
/-- a slot more -/
def WS.push (w : WS) (n : Nat) (fp : Addr → Prop) : WS := { w with fp := fun i a => if i = n then fp a else w.fp i a }
theorem at_push {x : Option B} {i : Nat} : at? (e ++ [x]) i = if i = e.length then x else at? e i := by
  unfold at?
  by_cases h : i = e.length
  · subst h
    rw [if_pos rfl, List.getElem?_append_right (Nat.le_refl _)]
    simp
  · rw [if_neg h]
    by_cases h2 : i < e.length
    · rw [List.getElem?_append_left h2]
    · rw [List.getElem?_eq_none (by rw [List.length_append, List.length_singleton]; omega), List.getElem?_eq_none (by omega)]
theorem Mt.push {x : B} {v : V} {fp : Addr → Prop} (m : Mt C π e σ w) (hb : BOk C w.G w.H x v fp) (hd : ∀ a, fp a → ∀ i, ¬ w.fp i a) : Mt C π (e ++ [some x]) (σ ++ [some v]) (w.push e.length fp) := by
  have out : ∀ i, ¬ i < e.length → ∀ a, ¬ w.fp i a := fun i hi a z => m.non i (by unfold at?; rw [List.getElem?_eq_none (by omega)]) a z
  refine ⟨by simp [m.len], m.sub, fun i b q => ?_, fun i q a z => ?_, fun i j a h1 h2 => ?_, fun q hq => ?_⟩
  · rw [at_push] at q
    by_cases h : i = e.length
    · rw [if_pos h] at q
      cases q
      refine ⟨v, by rw [h, m.len, List.getElem?_append_right (Nat.le_refl _)]; simp, ?_⟩
      have e1 : (w.push e.length fp).fp i = fp := by funext a; show (if i = e.length then fp a else w.fp i a) = fp a; rw [if_pos h]
      rw [e1]
      exact hb
    · rw [if_neg h] at q
      obtain ⟨u, h1, h2⟩ := m.bok i b q
      have hl := (List.getElem?_eq_some_iff.mp h1).1
      refine ⟨u, by rw [List.getElem?_append_left hl]; exact h1, ?_⟩
      have e1 : (w.push e.length fp).fp i = w.fp i := by funext a; show (if i = e.length then fp a else w.fp i a) = w.fp i a; rw [if_neg h]
      rw [e1]
      exact h2
  · rw [at_push] at q
    have z' : (if i = e.length then fp a else w.fp i a) := z
    by_cases h : i = e.length
    · rw [if_pos h] at q; cases q
    · rw [if_neg h] at q z'
      exact m.non i q a z'
  · have h1' : (if i = e.length then fp a else w.fp i a) := h1
    have h2' : (if j = e.length then fp a else w.fp j a) := h2
    by_cases hi : i = e.length
    · rw [if_pos hi] at h1'
      by_cases hj : j = e.length
      · rw [hi, hj]
      · rw [if_neg hj] at h2'
        exact absurd h2' (hd a h1' j)
    · rw [if_neg hi] at h1'
      by_cases hj : j = e.length
      · rw [if_pos hj] at h2'
        exact absurd h1' (hd a h2' i)
      · rw [if_neg hj] at h2'
        exact m.dis i j a h1' h2'
  · have := m.pin q hq
    rw [List.getElem?_append_left (List.getElem?_eq_some_iff.mp this).1]
    exact this
theorem Frm.push {fp : Addr → Prop} {n : Nat} (f : Frm w0 w) (hf : ∀ a, fp a → w0.H a = none ∨ ∃ i, w0.fp i a) : Frm w0 (w.push n fp) := by
  refine ⟨f.g, fun a o h k => ?_, f.t⟩
  obtain ⟨h1, h2, h3⟩ := f.k a o h k
  refine ⟨h1, h2, fun i z => ?_⟩
  have z' : (if i = n then fp a else w.fp i a) := z
  by_cases hi : i = n
  · rw [if_pos hi] at z'
    rcases hf a z' with q | ⟨j, q⟩
    · rw [q] at h; cases h
    · exact k j q
  · rw [if_neg hi] at z'
    exact h3 i z'
/-- the last slot let go -/
def WS.pop (w : WS) (n : Nat) : WS := { w with fp := fun i a => i ≠ n ∧ w.fp i a }
theorem Mt.pop {x : Option B} {v : Option V} (m : Mt C π (e ++ [x]) (σ ++ [v]) w) (hp : ∀ q ∈ π, q.1 < σ.length) : Mt C π e σ (w.pop e.length) := by
  have hl : e.length = σ.length := by simpa using m.len
  refine ⟨hl, m.sub, fun i b q => ?_, fun i q a z => ?_, fun i j a h1 h2 => m.dis i j a h1.2 h2.2, fun q hq => ?_⟩
  · have hi : i ≠ e.length := fun z => by rw [z] at q; unfold at? at q; rw [List.getElem?_eq_none (Nat.le_refl _)] at q; cases q
    obtain ⟨u, h1, h2⟩ := m.bok i b (by rw [at_push, if_neg hi]; exact q)
    have hlt : i < σ.length := by rw [← hl]; exact at_lt q
    rw [List.getElem?_append_left hlt] at h1
    refine ⟨u, h1, ?_⟩
    have e1 : (w.pop e.length).fp i = w.fp i := by funext a; exact propext ⟨fun z => z.2, fun z => ⟨hi, z⟩⟩
    rw [e1]
    exact h2
  · refine m.non i ?_ a z.2
    rw [at_push, if_neg z.1]
    exact q
  · have := m.pin q hq
    rwa [List.getElem?_append_left (hp q hq)] at this
theorem Frm.pop {n : Nat} (f : Frm w0 w) : Frm w0 (w.pop n) := ⟨f.g, fun a o h k => (f.k a o h k).imp id fun z => z.imp id fun z i q => z i q.2, f.t⟩
/-- where the arguments' slots are those of mi, the thing at j is new, and all else is frozen -/
def slotsOkT (mi : List (Nat × Nat)) (t : Nat) : Nat → List O → Bool
  | _, [] => true
  | j, .s i :: os => decide ((j, i) ∈ mi) && slotsOkT mi t (j + 1) os
  | j, .b x :: os => (decide (j = t) || (match x with
    | .fr _ => true
    | .ex _ => true
    | .sc _ => true
    | _ => false)) && slotsOkT mi t (j + 1) os
/-- an argument as it comes: a new thing -/
def aT (f : FE) (r : FA) : FA := fun e => bnd (f e) fun o e1 => match o with
  | .b x => bnd (r e1) fun os e2 => some (.ok (.b x :: os) e2)
  | .s _ => none
def fCallT (F : Fn) (n : Nat) (mi : List (Nat × Nat)) (t : Nat) (fa : FA) : FE := fun e => bnd (fa e) fun os e1 => if (slotsOkT mi t 0 os && miOk mi os && os.length == n && (mi.all fun p => decide (p.1 ≠ t) && decide (p.2 < e1.length))) = true then match os[t]? with
  | some (.b x) => (bindO e1 os).bind fun bs => match F bs with
    | none => none
    | some (.ret b e2) => some (.ok (.b b) (putBack e2 mi e1))
    | some (.ex c e2) => some (.ex c (putBack e2 mi e1))
  | _ => none else none
theorem va_T (ha : VE X ρ W a fa) (hr : VA X ρ W es as_) (hs : starEach (a :: es) X.env = (false, eval a X.env) :: starEach es X.env := by rfl) : VA X ρ W (a :: es) (aT fa as_) := by
  obtain ⟨t, p, s⟩ := ha
  obtain ⟨t2, p2, s2⟩ := hr
  refine ⟨_, pa_cons p p2 hs, fun π e σ w Q m h => ?_⟩
  refine s π e σ w _ m (h.bnd fun o1 e1 v1 w1 m1 f1 k1 h1 => ?_)
  cases o1 with
  | s i => exact h1.elim
  | b x =>
    refine s2 π e1 σ w1 _ m1 ((h1.from f1).bnd fun os e3 vs w3 m3 f3 k3 h3 => ?_)
    exact h3.from f3 (v1 :: vs) w3 m3 (.refl _) (.cons (k1.step f3) (paired_base f1 k3))
theorem slotsOkT_s {mi : List (Nat × Nat)} {t n : Nat} : ∀ {os : List O} {k : Nat}, slotsOkT mi t k os = true → slotsOk (mi ++ [(t, n)]) k (os.zipIdx k |>.map fun q => if q.2 = t then .s n else q.1) = true
  | [], k, h => rfl
  | .s i :: os, k, h => by
    unfold slotsOkT at h
    rw [Bool.and_eq_true] at h
    have ih := slotsOkT_s (n := n) h.2
    rw [List.zipIdx_cons, List.map_cons]
    by_cases e1 : k = t
    · rw [if_pos e1]
      unfold slotsOk
      rw [ih, Bool.and_true]
      exact decide_eq_true (by subst e1; simp)
    · rw [if_neg e1]
      unfold slotsOk
      rw [ih, Bool.and_true]
      exact decide_eq_true (List.mem_append_left _ (of_decide_eq_true h.1))
  | .b x :: os, k, h => by
    unfold slotsOkT at h
    rw [Bool.and_eq_true, Bool.or_eq_true] at h
    have ih := slotsOkT_s (n := n) h.2
    rw [List.zipIdx_cons, List.map_cons]
    by_cases e1 : k = t
    · rw [if_pos e1]
      unfold slotsOk
      rw [ih, Bool.and_true]
      exact decide_eq_true (by subst e1; simp)
    · rw [if_neg e1]
      unfold slotsOk
      rw [ih, Bool.and_true]
      rcases h.1 with z | z
      · exact absurd (of_decide_eq_true z) e1
      · exact z
theorem bindO_push {x : B} {t : Nat} : ∀ {os : List O} {bs : List B} {k : Nat}, bindO e os = some bs → (∀ o ∈ os, ∀ i, o = .s i → i < e.length) → (∀ j, os[j]? ≠ none → k + j = t → os[j]? = some (.b x)) → bindO (e ++ [some x]) (os.zipIdx k |>.map fun q => if q.2 = t then .s e.length else q.1) = some bs
  | [], bs, k, h, _, _ => h
  | o :: os, bs, k, h, hl, ht => by
    have tl : ∀ cs, bindO e os = some cs → bindO (e ++ [some x]) (os.zipIdx (k + 1) |>.map fun q => if q.2 = t then .s e.length else q.1) = some cs := fun cs q => bindO_push q (fun o ho => hl o (List.mem_cons_of_mem _ ho)) fun j hj hk => by
      have := ht (j + 1) (by simpa using hj) (by omega)
      simpa using this
    rw [List.zipIdx_cons, List.map_cons]
    by_cases e1 : k = t
    · have h0 := ht 0 (by simp) (by omega)
      simp only [List.getElem?_cons_zero, Option.some.injEq] at h0
      subst h0
      rw [if_pos e1]
      unfold bindO at h ⊢
      cases q : bindO e os with
      | none => rw [q] at h; cases h
      | some cs =>
        rw [q] at h
        rw [at_push, if_pos rfl, Option.bind_some, tl cs q]
        exact h
    · rw [if_neg e1]
      cases o with
      | b y =>
        unfold bindO at h ⊢
        cases q : bindO e os with
        | none => rw [q] at h; cases h
        | some cs =>
          rw [q] at h
          rw [tl cs q]
          exact h
      | s i =>
        have hi := hl _ List.mem_cons_self i rfl
        unfold bindO at h ⊢
        rw [at_push, if_neg (by omega)]
        cases qa : at? e i with
        | none => rw [qa] at h; cases h
        | some y =>
          rw [qa, Option.bind_some] at h
          rw [Option.bind_some]
          cases q : bindO e os with
          | none => rw [q] at h; cases h
          | some cs =>
            rw [q] at h
            rw [tl cs q]
            exact h
theorem bindO_lt : ∀ {os : List O} {bs : List B}, bindO e os = some bs → ∀ o ∈ os, ∀ i, o = .s i → i < e.length
  | o :: os, bs, h, o', ho, i, hi => by
    cases o with
    | b y =>
      unfold bindO at h
      cases q : bindO e os with
      | none => rw [q] at h; cases h
      | some cs =>
        rcases List.mem_cons.mp ho with rfl | ho
        · cases hi
        · exact bindO_lt q o' ho i hi
    | s j =>
      unfold bindO at h
      cases qa : at? e j with
      | none => rw [qa] at h; cases h
      | some y =>
        rw [qa, Option.bind_some] at h
        cases q : bindO e os with
        | none => rw [q] at h; cases h
        | some cs =>
          rcases List.mem_cons.mp ho with rfl | ho
          · cases hi; exact at_lt qa
          · exact bindO_lt q o' ho i hi
theorem zip_get {t n : Nat} {os : List O} {j : Nat} : (os.zipIdx 0 |>.map fun q => if q.2 = t then O.s n else q.1)[j]? = (os[j]?).map fun o => if j = t then .s n else o := by
  rw [List.getElem?_map, List.getElem?_zipIdx]
  cases os[j]? with
  | none => rfl
  | some o => simp
theorem putBack_push {x : Option B} : ∀ {mi : List (Nat × Nat)} {e : Env}, (∀ q ∈ mi, q.2 < e.length) → putBack e2 mi (e ++ [x]) = putBack e2 mi e ++ [x]
  | [], e, h => rfl
  | (j, i) :: r, e, h => by
    show putBack e2 r ((e ++ [x]).set i (at? e2 j)) = putBack e2 r (e.set i (at? e2 j)) ++ [x]
    rw [List.set_append_left _ _ (h (j, i) List.mem_cons_self)]
    exact putBack_push fun q hq => by rw [List.length_set]; exact h q (List.mem_cons_of_mem _ hq)
theorem putBack_app {n t : Nat} : ∀ (mi : List (Nat × Nat)) (e : Env), putBack e2 (mi ++ [(t, n)]) e = (putBack e2 mi e).set n (at? e2 t)
  | [], e => rfl
  | (j, i) :: r, e => putBack_app r (e.set i (at? e2 j))
theorem paired_of {α β : Type} {R : α → β → Prop} : ∀ {as : List α} {bs : List β}, as.length = bs.length → (∀ (j : Nat) (a : α) (b : β), as[j]? = some a → bs[j]? = some b → R a b) → Paired R as bs
  | [], [], _, _ => .nil
  | a :: as, b :: bs, h, k => .cons (k 0 a b rfl rfl) (paired_of (by simpa using h) fun j a b h1 h2 => k (j + 1) a b (by simpa using h1) (by simpa using h2))
theorem ve_callT {x : Str} {n k : Nat} {mi : List (Nat × Nat)} {F : Fn} (t : Nat) {ms : List Nat} (hms : ms = mi.map (·.1) ++ [t]) (V0 : Vx X W) (c : Cal X ρ x n ms F k) (hr : Room k X.A) (ha : VA X ρ W (a :: es) as_) (n2 : (mi.map (·.2)).Nodup := by decide) (hg : Gl X x := by rfl)
    (hdb : (x == ("__debug__" : Str)) = false := by decide) (he : starEach (a :: es) X.env = (false, eval a X.env) :: starEach es X.env := by rfl) (hpl : (backTo pos (starEach es X.env)).any (·.1) = false := by rfl) (hpi : True := trivial) :
    VE X ρ W (.Call (.Name x p) (a :: es) [] pos) (fCallT F n mi t as_) := by
  subst hms
  obtain ⟨f, fd, ps, FO, gm, gk, gb⟩ := c.ex
  obtain ⟨tt, pa, s⟩ := ha
  refine ⟨_, pe_callG FO hr V0.gd V0.sm hg gm gk gb (fun σ => passAt V0.tk σ) pa hdb he hpl, fun π e σ w Q m h => ?_⟩
  refine s π e σ w _ m (h.bnd fun os e1 vs w1 m1 f1 k1 h1 => ?_)
  split at h1
  case isFalse => exact h1.elim
  case isTrue hok =>
    rw [Bool.and_eq_true, Bool.and_eq_true, Bool.and_eq_true] at hok
    obtain ⟨⟨⟨hs, hmi⟩, hlen⟩, hall⟩ := hok
    have hlen := beq_iff_eq.mp hlen
    have hall' : ∀ q ∈ mi, q.1 ≠ t ∧ q.2 < e1.length := fun q hq => by
      have := List.all_eq_true.mp hall q hq
      rw [Bool.and_eq_true, decide_eq_true_eq, decide_eq_true_eq] at this
      exact this
    split at h1
    case h_2 => exact h1.elim
    case h_1 y ht =>
    cases qb : bindO e1 os with
    | none => rw [qb] at h1; exact h1.elim
    | some bs =>
      rw [qb] at h1
      simp only [Option.bind_some] at h1
      have lt := bindO_lt qb
      obtain ⟨vt, hvt, ov⟩ := paired_get k1 ht
      obtain ⟨fp, b1, b2⟩ := ov
      have m2 : Mt (cc X ρ) π (e1 ++ [some y]) (σ ++ [some vt]) (w1.push e1.length fp) := m1.push b1 fun a ha => (b2 a ha).2
      have f2 : Frm w (w1.push e1.length fp) := f1.push fun a ha => (b2 a ha).1
      let os' := os.zipIdx 0 |>.map fun q => if q.2 = t then O.s e1.length else q.1
      have hos : ∀ j, os'[j]? = (os[j]?).map fun o => if j = t then .s e1.length else o := fun j => zip_get
      have hmi' : miOk (mi ++ [(t, e1.length)]) os' = true := by
        refine List.all_eq_true.mpr fun q hq => ?_
        rw [hos]
        rcases List.mem_append.mp hq with hq | hq
        · have := List.all_eq_true.mp hmi q hq
          cases q9 : os[q.1]? with
          | none => rw [q9] at this; cases this
          | some o =>
            rw [q9] at this
            rw [Option.map_some, if_neg (hall' q hq).1]
            exact this
        · rw [List.mem_singleton] at hq
          subst hq
          rw [ht, Option.map_some, if_pos rfl]
          exact beq_self_eq_true _
      have n2' : ((mi ++ [(t, e1.length)]).map (·.2)).Nodup := by
        rw [List.map_append, List.nodup_append]
        refine ⟨n2, by simp, fun a ha b hb => ?_⟩
        obtain ⟨q, hq, rfl⟩ := List.mem_map.mp ha
        have : b = e1.length := by simpa using hb
        have := (hall' q hq).2
        omega
      have k2 : Paired (OOk (cc X ρ) (σ ++ [some vt]) w (w1.push e1.length fp)) os' vs := by
        refine paired_of (by simpa [os'] using paired_length k1) fun j o v ho hv => ?_
        rw [hos] at ho
        cases q9 : os[j]? with
        | none => rw [q9] at ho; cases ho
        | some o1 =>
          rw [q9] at ho
          obtain ⟨v1, hv1, r1⟩ := paired_get k1 q9
          rw [hv] at hv1
          cases hv1
          by_cases hj : j = t
          · rw [Option.map_some, if_pos hj] at ho
            cases ho
            subst hj
            rw [hvt] at hv
            cases hv
            show (σ ++ [some vt])[e1.length]? = some (some vt)
            rw [m1.len, List.getElem?_append_right (Nat.le_refl _)]
            simp
          · rw [Option.map_some, if_neg hj] at ho
            cases ho
            cases o with
            | s i =>
              have r1' : σ[i]? = some (some v) := r1
              show (σ ++ [some vt])[i]? = some (some v)
              rw [List.getElem?_append_left (List.getElem?_eq_some_iff.mp r1').1]
              exact r1'
            | b z =>
              obtain ⟨fp', c1, c2⟩ := r1
              have nz := slotsOk_s (slotsOkT_s (n := e1.length) hs) j (.b z) (by show os'[j]? = _; rw [hos, q9, Option.map_some, if_neg hj])
              exact ⟨fp', c1, fun a ha => absurd ha (nz _ _ _ _ _ c1 a)⟩
      refine ⟨?_, bs, (w1.push e1.length fp).lend (mi ++ [(t, e1.length)]), rfl, lend_mt m2 n2' (slotsOkT_s hs) hmi' (bindO_push qb lt fun j hj hk => ?_) k2, ?_⟩
      · rw [← paired_length k1]; exact hlen
      · rw [Nat.zero_add] at hk
        subst hk
        exact ht
      · have hback : ∀ {w' : WS} {e2 : Env}, Frm ((w1.push e1.length fp).lend (mi ++ [(t, e1.length)])) w' → Mt (cc X ρ) [] (mask ((mi ++ [(t, e1.length)]).map (·.1)) e2 vs.length) (vs.map some) w' → (∀ q ∈ π, q.1 < σ.length) →
            ∃ w3, Mt (cc X ρ) π (putBack e2 mi e1) σ w3 ∧ Frm w w3 ∧ w3.H = w'.H ∧ w3.G = w'.G ∧ (∀ i a, w3.fp i a → ((w1.push e1.length fp).back w' (mi ++ [(t, e1.length)])).fp i a) := by
          intro w' e2 f' m' hπ
          obtain ⟨g1, g2⟩ := back_mt m2 n2' hmi' k2 f' m' rfl
          have e9 : putBack e2 (mi ++ [(t, e1.length)]) (e1 ++ [some y]) = putBack e2 mi e1 ++ [at? e2 t] := by
            rw [putBack_app, putBack_push fun q hq => (hall' q hq).2, List.set_append_right _ _ (by rw [putBack_length]; exact Nat.le_refl _), putBack_length]
            simp
          rw [e9] at g1
          have g3 := g1.pop hπ
          refine ⟨_, g3, (f2.trans g2).pop, rfl, rfl, fun i a z => z.2⟩
        have hπ : ∀ q ∈ π, q.1 < σ.length := fun q hq => (List.getElem?_eq_some_iff.mp (m1.pin q hq)).1
        have ems : mi.map (·.1) ++ [t] = (mi ++ [(t, e1.length)]).map (·.1) := by rw [List.map_append]; rfl
        rw [ems]
        cases qF : F bs with
        | none => rw [qF] at h1; exact h1.elim
        | some r =>
          rw [qF] at h1
          cases r with
          | ret b e2 =>
            intro v w' m' f' k'
            obtain ⟨w3, g1, g2, g3, g4, g5⟩ := hback f' m' hπ
            rw [← g3]
            refine h1 v w3 g1 g2 ?_
            obtain ⟨fp3, c1, c2⟩ := k'
            refine ⟨fp3, by rw [g3, g4]; exact c1, fun a ha => ⟨?_, fun i z => ?_⟩⟩
            · rcases (c2 a ha).1 with q | ⟨j, i, q1, q2⟩
              · exact .inl (f1.t a q)
              · have q2' : (if i = e1.length then fp a else w1.fp i a) := q2
                by_cases hi : i = e1.length
                · rw [if_pos hi] at q2'
                  exact (b2 a q2').1
                · rw [if_neg hi] at q2'
                  exact f1.back (.inr ⟨i, q2'⟩)
            · rcases g5 i a z with ⟨j, _, z⟩ | ⟨hn, z⟩
              · exact (c2 a ha).2 j z
              · obtain ⟨_, o, ho⟩ := m2.own z
                rcases (c2 a ha).1 with q | ⟨j, i', q1, q2⟩
                · have q' : w1.H a = none := q
                  rw [show (w1.push e1.length fp).H a = w1.H a from rfl, q'] at ho; cases ho
                · have := m2.dis i i' a z q2
                  subst this
                  exact hn j q1
          | ex c e2 =>
            intro w' A hA m' f'
            obtain ⟨w3, g1, g2, g3, g4, g5⟩ := hback f' m' hπ
            rw [← g3]
            exact h1 w3 A hA g1 g2
end
end VL
set_option maxRecDepth 100000
namespace VL
open PySem L2
/-- a thing of its own, as a tree -/
def trOf : B → Option Tr
  | .fr d => some (.fr d)
  | .ow ds => some (.nd .lst (ds.map .fr))
  | .tr t => some t
  | _ => none
section
variable {C : Cc} {π : List (Nat × V)} {e e' : Env} {σ : St} {w w0 : WS} {o : O} {v : V} {t : Tr}
theorem tall_fr {G H : Hp} : ∀ {xs : List V} {ds : List PyData}, RpAll C.K G xs ds → TAll C G H (ds.map .fr) xs []
  | _, _, .nil => .nil
  | _, _, .cons r t => .cons (as := []) (.fr r) (tall_fr t)
theorem bok_tr {G H : Hp} {b : B} {fp : Addr → Prop} (h : BOk C G H b v fp) (ht : trOf b = some t) : BOk C G H (.tr t) v fp := by
  cases b with
  | fr d =>
    cases ht
    exact ⟨[], .fr h.1, List.nodup_nil, fun a => ⟨fun z => absurd z (h.2 a), fun z => nomatch z⟩⟩
  | ow ds =>
    cases ht
    obtain ⟨p, xs, rfl, h1, h2, h3, h4⟩ := h
    exact ⟨[p], .lst h1 h2 (tall_fr h3), by simp, fun a => (h4 a).trans (by simp)⟩
  | tr t' => cases ht; exact h
  | od ds => cases ht
  | ex c => cases ht
  | rs k d => cases ht
  | sc ns => cases ht
theorem TAll.append {G H : Hp} : ∀ {ts us : List Tr} {xs ys : List V} {as bs : List Addr}, TAll C G H ts xs as → TAll C G H us ys bs → TAll C G H (ts ++ us) (xs ++ ys) (as ++ bs)
  | _, _, _, _, _, _, .nil, k => k
  | _, _, _, _, _, bs, .cons (as := a1) (bs := b1) h t, k => by
    rw [List.append_assoc]
    exact .cons h (TAll.append t k)
theorem TAll.length {G H : Hp} : ∀ {ts : List Tr} {xs : List V} {as : List Addr}, TAll C G H ts xs as → xs.length = ts.length
  | _, _, _, .nil => rfl
  | _, _, _, .cons _ t => by rw [List.length_cons, List.length_cons, TAll.length t]
end
end VL
set_option maxRecDepth 100000
namespace VL
open PySem L2
/-- what all are frozen -/
def frsT : List Tr → Option (List PyData)
  | [] => some []
  | .fr d :: r => (frsT r).map (d :: ·)
  | .nd _ _ :: _ => none
/-- a tree in a slot; fl: a list of what is frozen -/
def rowB (fl : Bool) : Tr → Option B
  | .fr d => if fl = true then none else some (.fr d)
  | .nd k ts => if fl = true then (match k with
    | .lst => (frsT ts).map .ow
    | _ => none) else some (.tr (.nd k ts))
section
variable {C : Cc} {π : List (Nat × V)} {e e' : Env} {σ : St} {w w0 w1 : WS}
theorem frs_all {G H : Hp} : ∀ {ts : List Tr} {ds : List PyData} {xs : List V} {as : List Addr}, frsT ts = some ds → TAll C G H ts xs as → RpAll C.K G xs ds ∧ as = []
  | [], _, _, _, h, .nil => by
    cases h
    exact ⟨.nil, rfl⟩
  | .fr d :: r, ds, _, _, h, .cons h1 h2 => by
    have h' : (frsT r).map (d :: ·) = some ds := h
    cases q : frsT r with
    | none => rw [q] at h'; cases h'
    | some es =>
      rw [q] at h'
      cases h'
      obtain ⟨g1, g2⟩ := frs_all q h2
      cases h1 with
      | fr rr => exact ⟨.cons rr g1, by rw [g2]; rfl⟩
  | .nd _ _ :: _, _, _, _, h, _ => by cases h
theorem bok_rowB {fl : Bool} {b : B} {G H : Hp} {t : Tr} {v : V} {as : List Addr} (hb : rowB fl t = some b) (h : TOk C G H t v as) (nd : as.Nodup) : BOk C G H b v fun a => a ∈ as := by
  unfold rowB at hb
  split at hb
  · split at hb
    · cases hb
    · cases hb
      cases h with
      | fr r => exact ⟨r, fun a z => nomatch z⟩
  · rename_i k ts
    split at hb
    · split at hb
      · cases q : frsT ts with
        | none => rw [q] at hb; cases hb
        | some ds =>
          rw [q] at hb
          cases hb
          cases h with
          | lst n1 n2 n3 =>
            rename_i p xs as'
            obtain ⟨g1, g2⟩ := frs_all q n3
            subst g2
            exact ⟨p, xs, rfl, n1, n2, g1, fun a => by simp⟩
      · cases hb
    · cases hb
      exact ⟨as, h, nd, fun _ => Iff.rfl⟩
/-- things at some addresses, in no slot: hidden -/
structure Hid (w : WS) (as : List Addr) : Prop where
  nd : as.Nodup
  g : ∀ a ∈ as, w.G a = none
  h : ∀ a ∈ as, ∃ o, w.H a = some o
  n : ∀ a ∈ as, ∀ i, ¬ w.fp i a
theorem Hid.step {as : List Addr} (k : Hid w as) (f : Frm w w1) : Hid w1 as ∧ ∀ a ∈ as, w1.H a = w.H a ∧ w1.G a = w.G a := by
  have key : ∀ a ∈ as, w1.H a = w.H a ∧ w1.G a = w.G a ∧ ∀ i, ¬ w1.fp i a := fun a ha => by
    obtain ⟨o, ho⟩ := k.h a ha
    obtain ⟨g1, g2, g3⟩ := f.k a o ho (k.n a ha)
    exact ⟨g1.trans ho.symm, g2, g3⟩
  exact ⟨⟨k.nd, fun a ha => (key a ha).2.1.trans (k.g a ha), fun a ha => by rw [(key a ha).1]; exact k.h a ha, fun a ha => (key a ha).2.2⟩, fun a ha => ⟨(key a ha).1, (key a ha).2.1⟩⟩
theorem Hid.sub {as bs : List Addr} (k : Hid w as) (h : bs.Sublist as) : Hid w bs := ⟨k.nd.sublist h, fun a ha => k.g a (h.subset ha), fun a ha => k.h a (h.subset ha), fun a ha => k.n a (h.subset ha)⟩
/-- a slot taken out: what it owned is hidden -/
theorem Mt.take {i : Nat} {b : B} {t : Tr} (m : Mt C π e σ w) (h : at? e i = some b) (ht : trOf b = some t) : ∃ v w' as, σ[i]? = some (some v) ∧ Mt C π (e.set i none) σ w' ∧ Frm w w' ∧ w'.H = w.H ∧ w'.G = w.G ∧ TOk C w'.G w'.H t v as ∧ Hid w' as ∧ (∀ a, a ∈ as ↔ w.fp i a) ∧ ∀ l a, w'.fp l a → w.fp l a := by
  obtain ⟨v, h1, h2⟩ := m.bok i b h
  obtain ⟨as, g1, g2, g3⟩ := bok_tr h2 ht
  obtain ⟨w', m', f', eH, eG, hl⟩ := m.drop (i := i)
  have hn : ∀ a ∈ as, ∀ j, ¬ w'.fp j a := fun a ha j z => by
    by_cases hj : i = j
    · subst hj
      exact m'.non i (at_set_same h) a z
    · exact hj (m.dis i j a ((g3 a).mpr ha) (hl j a z))
  refine ⟨v, w', as, h1, m', f', eH, eG, by rw [eH, eG]; exact g1, ⟨g2, fun a ha => ?_, fun a ha => ?_, hn⟩, fun a => (g3 a).symm, hl⟩
  · rw [eG]; exact (g1.own a ha).1
  · rw [eH]; exact (g1.own a ha).2
/-- a hidden thing given to a slot that is free -/
theorem Mt.give {i : Nat} {b : B} {v : V} {as : List Addr} (m : Mt C π e σ w) (f : Frm w0 w) (hv : σ[i]? = some (some v)) (hb : ∀ fp : Addr → Prop, (∀ a, fp a ↔ a ∈ as) → BOk C w.G w.H b v fp) (hd : Hid w as) (so : ∀ a ∈ as, w0.H a = none ∨ ∃ k, w0.fp k a) :
    Mt C π (e.set i (some b)) σ { w with fp := fun k a => if k = i then a ∈ as else w.fp k a } ∧ Frm w0 { w with fp := fun k a => if k = i then a ∈ as else w.fp k a } := by
  have hlt : i < e.length := by rw [m.len]; exact (List.getElem?_eq_some_iff.mp hv).1
  refine ⟨⟨by rw [List.length_set]; exact m.len, m.sub, fun j c q => ?_, fun j q a z => ?_, fun j k a x y => ?_, m.pin⟩, ⟨f.g, fun a o q n => ?_, f.t⟩⟩
  · by_cases hj : i = j
    · subst hj
      rw [at_set_lt hlt] at q
      cases q
      exact ⟨v, hv, hb _ fun a => by show (if i = i then a ∈ as else w.fp i a) ↔ _; rw [if_pos rfl]⟩
    · rw [at_set_ne hj] at q
      obtain ⟨u, k1, k2⟩ := m.bok j c q
      refine ⟨u, k1, ?_⟩
      have e1 : (fun a => (if j = i then a ∈ as else w.fp j a)) = w.fp j := by funext a; rw [if_neg (Ne.symm hj)]
      show BOk C w.G w.H c u (fun a => if j = i then a ∈ as else w.fp j a)
      rw [e1]
      exact k2
  · have z' : (if j = i then a ∈ as else w.fp j a) := z
    by_cases hj : i = j
    · subst hj
      rw [at_set_lt hlt] at q
      cases q
    · rw [at_set_ne hj] at q
      rw [if_neg (Ne.symm hj)] at z'
      exact m.non j q a z'
  · have x' : (if j = i then a ∈ as else w.fp j a) := x
    have y' : (if k = i then a ∈ as else w.fp k a) := y
    by_cases hj : j = i
    · rw [if_pos hj] at x'
      by_cases hk : k = i
      · rw [hj, hk]
      · rw [if_neg hk] at y'
        exact absurd y' (hd.n a x' k)
    · rw [if_neg hj] at x'
      by_cases hk : k = i
      · rw [if_pos hk] at y'
        exact absurd x' (hd.n a y' j)
      · rw [if_neg hk] at y'
        exact m.dis j k a x' y'
  · obtain ⟨h1, h2, h3⟩ := f.k a o q n
    refine ⟨h1, h2, fun k z => ?_⟩
    have z' : (if k = i then a ∈ as else w.fp k a) := z
    by_cases hk : k = i
    · rw [if_pos hk] at z'
      rcases so a z' with r | ⟨l, r⟩
      · rw [r] at q; cases q
      · exact n l r
    · rw [if_neg hk] at z'
      exact h3 k z'
theorem Mt.unpin {q : Nat × V} (m : Mt C (q :: π) e σ w) : Mt C π e σ w := ⟨m.len, m.sub, m.bok, m.non, m.dis, fun p hp => m.pin p (List.mem_cons_of_mem _ hp)⟩
end
section
variable {X : Cx} {ρ : Nat → Res} {W : WX} {pn : List Nat} {f : FS}
theorem TAll.at {C : Cc} {G H : Hp} {t : Tr} {r : List Tr} {x2 : List V} {a2 : List Addr} (h : TAll C G H (t :: r) x2 a2) : ∃ x y a b, x2 = x :: y ∧ a2 = a ++ b ∧ TOk C G H t x a ∧ TAll C G H r y b := by
  cases h with
  | cons h1 h2 => exact ⟨_, _, _, _, rfl, rfl, h1, h2⟩
/-- the list at p, its rows done and left, all hidden -/
structure Rws (C : Cc) (w0 w : WS) (p : Addr) (xs : List V) (us ts : List Tr) (k : Nat) (as1 as2 : List Addr) : Prop where
  at_ : w.H p = some (.lst xs)
  kk : k = us.length
  len : xs.length = us.length + ts.length
  a1 : TAll C w.G w.H us (xs.take k) as1
  a2 : TAll C w.G w.H ts (xs.drop k) as2
  hid : Hid w (p :: (as1 ++ as2))
  src : ∀ a ∈ p :: (as1 ++ as2), w0.H a = none ∨ ∃ j, w0.fp j a
theorem Rws.step {C : Cc} {w0 w w1 : WS} {p : Addr} {xs : List V} {us ts : List Tr} {k : Nat} {as1 as2 : List Addr} (r : Rws C w0 w p xs us ts k as1 as2) (f : Frm w w1) : Rws C w0 w1 p xs us ts k as1 as2 := by
  obtain ⟨h1, h2⟩ := r.hid.step f
  exact ⟨(h2 p List.mem_cons_self).1.trans r.at_, r.kk, r.len, r.a1.mono f.g fun a ha => h2 a (List.mem_cons_of_mem _ (List.mem_append_left _ ha)), r.a2.mono f.g fun a ha => h2 a (List.mem_cons_of_mem _ (List.mem_append_right _ ha)), h1, r.src⟩
end
end VL
set_option maxRecDepth 100000
namespace VL
open PySem L2 PySem.Spec PyProof.Rows
open PySem.W (alike minD AlikeAll)
open PySem.SeqAt (shaped)
end VL
set_option maxRecDepth 100000
namespace VL
open PySem L2 PySem.Spec PyProof.Rows
end VL
set_option maxRecDepth 100000
namespace VL
open PySem L2 PySem.Spec PyProof.Rows
section
variable {P : Program} {w : World} {K : PySem.W.Frag} {mg : Str → Option Value} {base : Heap} {ρ : Nat → Res}
theorem cal_none {x qual : Str} {params : Arguments} {body : List Stmt} {scope : Scope} {f : Addr} {fd : FuncData} {ps : List Str} {k : Nat} (ms : List Nat) (F : FunD K x qual params body scope [] [] f fd) (gm : mg x = some (.ref f))
    (hb : ∀ (kV doc pm : Value) (an : Option Addr) (cdv ct : Value) (us : List Value), us.length = ps.length → bindArgs (PySem.W.fnOf x qual params body scope .none kV doc pm an cdv ct) ⟨us, []⟩ = pure (ps.zip us)) :
    CalK P w K mg base ρ x ps.length ms (fun _ => none) k := by
  have no : ∀ {vs H Q E}, spV ⟨K, mg, ρ⟩ ps.length ms (fun _ => none) vs H Q E → False := fun {vs H Q E} h => by
    obtain ⟨_, bs, w0, _, _, h⟩ := h
    exact h
  exact ⟨f, fd, ps, ⟨fun vs H Q E h => (no h).elim, fun A out s H ar us vs Q E rm gd sm e0 bd rv hs => (no hs).elim⟩, gm, F.kp, F.bindsN hb⟩
end
end VL
set_option maxRecDepth 100000
namespace VL
open PySem L2
end VL
set_option maxRecDepth 100000
namespace VL
open PySem L2
/-- the rows of a list at p from k on, hidden -/
structure Tl (C : Cc) (w0 w : WS) (p : Addr) (xs : List V) (ts : List Tr) (k : Nat) (as : List Addr) : Prop where
  at_ : w.H p = some (.lst xs)
  len : xs.length = k + ts.length
  al : TAll C w.G w.H ts (xs.drop k) as
  hid : Hid w (p :: as)
  src : ∀ a ∈ p :: as, w0.H a = none ∨ ∃ j, w0.fp j a
theorem Tl.step {C : Cc} {w0 w w1 : WS} {p : Addr} {xs : List V} {ts : List Tr} {k : Nat} {as : List Addr} (r : Tl C w0 w p xs ts k as) (f : Frm w w1) : Tl C w0 w1 p xs ts k as := by
  obtain ⟨h1, h2⟩ := r.hid.step f
  exact ⟨(h2 p List.mem_cons_self).1.trans r.at_, r.len, r.al.mono f.g fun a ha => h2 a (List.mem_cons_of_mem _ ha), h1, r.src⟩
/-- the next row out of it, into the free slot j -/
theorem Tl.next {C : Cc} {π : List (Nat × V)} {e : Env} {σ : St} {w0 w : WS} {p : Addr} {xs : List V} {t : Tr} {ts : List Tr} {k j : Nat} {as : List Addr} {fl : Bool} {b : B} (r : Tl C w0 w p xs (t :: ts) k as) (m : Mt C π (e.set j none) σ w) (f : Frm w0 w) (hj : j < e.length) (hp : ∀ q ∈ π, q.1 ≠ j) (hb : rowB fl t = some b) :
    ∃ (hk : k < xs.length) (w' : WS) (a1 a2 : List Addr), as = a1 ++ a2 ∧ Mt C π ((e.set j none).set j (some b)) (σ.set j (some xs[k])) w' ∧ Frm w0 w' ∧ w'.H = w.H ∧ w'.G = w.G ∧ Tl C w0 w' p xs ts (k + 1) a2 ∧ (∀ l a, w'.fp l a → w.fp l a ∨ a ∈ a1) := by
  have hlt : k < xs.length := by rw [r.len, List.length_cons]; omega
  refine ⟨hlt, ?_⟩
  have al := r.al
  rw [List.drop_eq_getElem_cons hlt] at al
  obtain ⟨x, ys, at_, ar, ex, ea, tt, tr⟩ := TAll.at al
  cases ex
  subst ea
  have sub1 : at_.Sublist (p :: (at_ ++ ar)) := (List.sublist_append_left at_ ar).trans (List.sublist_cons_self _ _)
  have sub2 : (p :: ar).Sublist (p :: (at_ ++ ar)) := List.Sublist.cons_cons p (List.sublist_append_right at_ ar)
  have hidt : Hid w at_ := r.hid.sub sub1
  have hidr : Hid w (p :: ar) := r.hid.sub sub2
  have dsj : ∀ a ∈ at_, a ∉ p :: ar := fun a ha z => by
    obtain ⟨d1, d2⟩ := List.nodup_cons.mp r.hid.nd
    obtain ⟨d3, d4, d5⟩ := List.nodup_append.mp d2
    rcases List.mem_cons.mp z with rfl | z
    · exact d1 (List.mem_append_left _ ha)
    · exact d5 a ha a z rfl
  have hl : j < (e.set j none).length := by rw [List.length_set]; exact hj
  have m3 : Mt C π (e.set j none) (σ.set j (some xs[k])) w := m.sfree (at_set_lt hj) hp
  have hjs : (σ.set j (some xs[k]))[j]? = some (some xs[k]) := List.getElem?_set_self (by rw [← m.len]; exact hl)
  obtain ⟨m4, f4⟩ := m3.give (w0 := w0) f hjs (fun fp hfp => by
    have := bok_rowB hb tt hidt.nd
    have e1 : (fun a => a ∈ at_) = fp := by funext a; exact propext (hfp a).symm
    rw [e1] at this
    exact this) hidt (fun a ha => r.src a (sub1.subset ha))
  refine ⟨_, at_, ar, rfl, m4, f4, rfl, rfl, ⟨r.at_, by rw [r.len, List.length_cons]; omega, tr, ⟨hidr.nd, hidr.g, hidr.h, fun a ha l z => ?_⟩, fun a ha => r.src a (sub2.subset ha)⟩, fun l a z => ?_⟩
  · have z' : (if l = j then a ∈ at_ else w.fp l a) := z
    by_cases hl : l = j
    · rw [if_pos hl] at z'
      exact dsj a z' ha
    · rw [if_neg hl] at z'
      exact hidr.n a ha l z'
  · have z' : (if l = j then a ∈ at_ else w.fp l a) := z
    by_cases hl : l = j
    · rw [if_pos hl] at z'
      exact .inr z'
    · rw [if_neg hl] at z'
      exact .inl z'
end VL
set_option maxRecDepth 100000
namespace VL
open PySem L2
/-- what a comprehension holds, hidden; and what else is hidden -/
structure Acc (C : Cc) (w0 w : WS) (D : Addr) (xs : List V) (acc : List Tr) (as ex : List Addr) : Prop where
  at_ : w.H D = some (.lst xs)
  al : TAll C w.G w.H acc xs as
  hid : Hid w (D :: (as ++ ex))
  src : ∀ a ∈ D :: as, w0.H a = none ∨ ∃ j, w0.fp j a
theorem Acc.step {C : Cc} {w0 w w1 : WS} {D : Addr} {xs : List V} {acc : List Tr} {as ex : List Addr} (r : Acc C w0 w D xs acc as ex) (f : Frm w w1) : Acc C w0 w1 D xs acc as ex := by
  obtain ⟨h1, h2⟩ := r.hid.step f
  exact ⟨(h2 D List.mem_cons_self).1.trans r.at_, r.al.mono f.g fun a ha => h2 a (List.mem_cons_of_mem _ (List.mem_append_left _ ha)), h1, r.src⟩
end VL
set_option maxRecDepth 100000
namespace VL
open PySem L2
end VL
set_option maxRecDepth 100000
namespace VL
open PySem L2
end VL
set_option maxRecDepth 100000
namespace VL
open PySem L2
section
variable {C : Cc} {W : WX} {π : List (Nat × V)} {e e' : Env} {σ σ' : St} {w w0 w1 : WS}
/-- what slots hold, pinned -/
def pins (σ : St) (e : Env) (ks : List Nat) : List (Nat × V) := ks.filterMap fun k => match at? e k, σ[k]? with
  | some _, some (some v) => some (k, v)
  | _, _ => none
end
end VL
set_option maxRecDepth 100000
namespace VL
open PySem L2 PySem.Spec PyProof.Rows
end VL
set_option maxRecDepth 100000
namespace VL
open PySem L2
end VL
set_option maxRecDepth 100000
set_option maxHeartbeats 2000000
namespace VL
open PySem L2 PySem.Spec PyProof.Rows
end VL
set_option maxRecDepth 100000
set_option maxHeartbeats 2000000
namespace VL
open PySem L2 PySem.Spec PyProof.Rows
/-- what a def promises there -/
structure FnU (P : Program) (w : World) (K : PySem.W.Frag) (mg : Str → Option Value) (base : Heap) (k : Nat) (f : Addr) (fd : FuncData) (ps : List Str) (sp : Sp) : Prop where
  cnt : ∀ vs H Q E, sp vs H Q E → vs.length = ps.length
  go : ∀ (A : Around) (out : List PySem.Env) (s : Shared) (H : Hp) (ar : Args) (us : List Value) (vs : List V) (Q : VK) (E : XK), L2H.RoomH k A → A.guards = some [] → SmB base → Env0 P w K mg base A out s H → BindsTo s fd ar (ps.zip us) → Vals vs us → sp vs H Q E →
    codeAny (model P w) A (.call (.ref f) ar) (CR (L2.CX P w) out P w H s Q E) s
section
variable {X : Cx} {k : Nat} {f : Addr} {fd : FuncData} {ps : List Str} {sp : Sp} {E : L2.St → XK} {x : Str} {p pos : Pos} {e : Expr} {es : List Expr} {t : TA}
theorem FnU.runs {pins : List (Addr × Obj)} {σ : L2.St} {H : Hp} {s : Shared} {Q : VK} {us : List Value} {vs : List V} (Fu : FnU X.prog X.w X.K X.mg X.base k f fd ps sp) (rh : L2H.RoomH k X.A) (gd : X.A.guards = some []) (sm : SmB X.base) (bn : Binds X.K fd ps [])
    (ps1 : PassesAt (L2.CX X.prog X.w) X σ (E σ)) (J : Inv X pins σ H s) (rv : Vals vs us) (hs : sp vs H Q (E σ)) : wpAny (model X.prog X.w) X.A (call (.ref f) us) (EP X pins σ Q) X.xe s := by
  have ln : us.length = ps.length := rv.length.symm.trans (Fu.cnt _ _ _ _ hs)
  have bb := bn s us J.kIn (by rw [List.append_nil, ln]); rw [List.append_nil] at bb
  refine wpAny_call (codeAny_mono (Fu.go X.A X.stack s H ⟨us, []⟩ us vs Q (E σ) rh gd sm J.env0 bb rv hs) fun res s2 ce => ?_)
  rcases res with er | fl
  · exact ps1 pins H s er s2 J ce
  · rcases fl with _ | _ | _ | u
    all_goals first | exact J.after ce | exact ce.elim
end
end VL
set_option maxRecDepth 100000
namespace VL
open PySem L2 PySem.Spec PyProof.Rows
end VL
set_option maxRecDepth 100000
namespace VL
open PySem L2
def Tr.sub : Tr → List Nat → Option Tr
  | t, [] => some t
  | .nd .lst ts, k :: ks => ts[k]?.bind fun t => t.sub ks
  | .nd .tup ts, k :: ks => ts[k]?.bind fun t => t.sub ks
  | _, _ :: _ => none
def Tr.put : Tr → List Nat → Tr → Option Tr
  | _, [], s => some s
  | .nd .lst ts, k :: ks, s => ts[k]?.bind fun t => (t.put ks s).map fun t' => .nd .lst (ts.set k t')
  | .nd .tup ts, k :: ks, s => ts[k]?.bind fun t => (t.put ks s).map fun t' => .nd .tup (ts.set k t')
  | _, _ :: _, _ => none
/-- from v by items to u -/
def Walk (H : Hp) : V → List Nat → V → Prop
  | v, [], u => v = u
  | v, k :: ks, u => ∃ p xs x, v = .ref p ∧ (H p = some (.lst xs) ∨ H p = some (.tup xs)) ∧ xs[k]? = some x ∧ Walk H x ks u
theorem Walk.fn {H : Hp} : ∀ {ks : List Nat} {v u u' : V}, Walk H v ks u → Walk H v ks u' → u = u'
  | [], _, _, _, h, h' => h.symm.trans h'
  | k :: ks, _, _, _, ⟨p, xs, x, e, h1, h2, h3⟩, ⟨p', xs', x', e', h1', h2', h3'⟩ => by
    rw [e] at e'
    cases e'
    have : xs = xs' := by
      rcases h1 with h1 | h1 <;> rcases h1' with h1' | h1' <;> rw [h1] at h1' <;> cases h1' <;> rfl
    subst this
    rw [h2] at h2'
    cases h2'
    exact Walk.fn h3 h3'
end VL
set_option maxRecDepth 100000
namespace VL
open PySem L2
end VL
set_option maxRecDepth 100000
namespace VL
open PySem L2
end VL
set_option maxRecDepth 100000
namespace VL
open PySem L2 PySem.Spec PyProof.Rows
end VL
set_option maxRecDepth 100000
namespace VL
open PySem L2
end VL
set_option maxRecDepth 100000
namespace VL
open PySem L2
end VL
set_option maxRecDepth 100000
namespace VL
open PySem L2 PySem.Spec PyProof.Rows
end VL
set_option maxRecDepth 100000
namespace VL
open PySem L2
end VL
set_option maxRecDepth 100000
namespace VL
open PySem L2
section
variable {C : Cc} {W : WX} {pn : List Nat} {tt : TT} {te : TE} {ft : FT} {fe : FE} {i j h : Nat}
theorem Mt.swap {C : Cc} {π : List (Nat × V)} {a b : Nat × V} {e : Env} {σ : St} {w : WS} (m : Mt C (a :: b :: π) e σ w) : Mt C (b :: a :: π) e σ w := ⟨m.len, m.sub, m.bok, m.non, m.dis, fun q hq => m.pin q (by
  rcases List.mem_cons.mp hq with rfl | hq
  · exact List.mem_cons_of_mem _ List.mem_cons_self
  · rcases List.mem_cons.mp hq with rfl | hq
    · exact List.mem_cons_self
    · exact List.mem_cons_of_mem _ (List.mem_cons_of_mem _ hq))⟩
end
end VL
set_option maxRecDepth 100000
namespace VL
open PySem L2
def isKT : PyData → Bool
  | .tuple ds => ds.all isK
  | _ => false
def keqL : List PyData → List PyData → Bool
  | [], [] => true
  | a :: as, b :: bs => keq a b && keqL as bs
  | _, _ => false
def keqT : PyData → PyData → Bool
  | .tuple as, .tuple bs => keqL as bs
  | _, _ => false
def keyT : PyData → List Key
  | .tuple ds => ds.map keyD
  | _ => []
def kPT (k : List Key) : PyData := .tuple (k.map kP)
theorem kPT_keyT {d : PyData} (h : isKT d = true) : kPT (keyT d) = d := by
  cases d with
  | tuple ds =>
    have h' := List.all_eq_true.mp (show ds.all isK = true from h)
    show PyData.tuple ((ds.map keyD).map kP) = _
    congr 1
    rw [List.map_map]
    refine (List.map_congr_left fun x hx => ?_).trans (List.map_id _)
    exact kP_keyD (h' x hx)
  | _ => cases h
theorem keqL_kP : ∀ a b : List Key, keqL (a.map kP) (b.map kP) = decide (a = b)
  | [], [] => rfl
  | [], _ :: _ => rfl
  | _ :: _, [] => rfl
  | a :: as, b :: bs => by
    show (keq (kP a) (kP b) && keqL (as.map kP) (bs.map kP)) = _
    rw [keq_kP, keqL_kP, ← Bool.decide_and]
    exact decide_eq_decide.mpr (by simp)
theorem keqT_kP (a b : List Key) : keqT (kPT a) (kPT b) = decide (a = b) := keqL_kP a b
theorem kvs_rp {K : PySem.W.Frag} {G : Hp} : ∀ {xs : List V} {ds : List PyData}, RpAll K G xs ds → ds.all isK = true → xs = (ds.map keyD).map kV
  | _, _, .nil, _ => rfl
  | _, _, .cons (d := d) r t, h => by
    rw [List.all_cons, Bool.and_eq_true] at h
    rw [kvs_rp t h.2, List.map_cons, List.map_cons]
    congr 1
    have h1 := h.1
    cases d <;> first | (cases r; rfl) | cases h1
theorem kT_rq {K : PySem.W.Frag} {G H : Hp} {v : V} {d : PyData} (s : Same G H) (r : Rq K G H v d) (h : isKT d = true) : ∃ b, v = .ref b ∧ H b = some (.tup ((keyT d).map kV)) := by
  cases d with
  | tuple ds =>
    obtain ⟨a, xs, rfl, g, ra⟩ := r
    exact ⟨a, rfl, by rw [s a _ g, kvs_rp ra h]; rfl⟩
  | _ => cases h
def lookDT (ds : DKv) (k : PyData) : Option PyData := (ds.find? fun p => keqT p.1 k).map (·.2)
def putDT (ds : DKv) (k v : PyData) : DKv := if (ds.any fun p => keqT p.1 k) = true then ds.map (fun p => if keqT p.1 k = true then (p.1, v) else p) else ds ++ [(k, v)]
inductive RpDT (K : PySem.W.Frag) (G : Hp) : List (List Key × V) → DKv → Prop
  | nil : RpDT K G [] []
  | cons {k : List Key} {v : V} {d : PyData} {ks : List (List Key × V)} {ds : DKv} : Rp K G v d → RpDT K G ks ds → RpDT K G ((k, v) :: ks) ((kPT k, d) :: ds)
section
variable {K : PySem.W.Frag} {G : Hp}
theorem RpDT.length : ∀ {ks : List (List Key × V)} {ds : DKv}, RpDT K G ks ds → ks.length = ds.length
  | _, _, .nil => rfl
  | _, _, .cons _ t => by rw [List.length_cons, List.length_cons, t.length]
theorem RpDT.mono {G' : Hp} (e : Same G G') : ∀ {ks : List (List Key × V)} {ds : DKv}, RpDT K G ks ds → RpDT K G' ks ds
  | _, _, .nil => .nil
  | _, _, .cons r t => .cons (r.mono e) (t.mono e)
theorem RpDT.append : ∀ {ks ls : List (List Key × V)} {ds es : DKv}, RpDT K G ks ds → RpDT K G ls es → RpDT K G (ks ++ ls) (ds ++ es)
  | _, _, _, _, .nil, t => t
  | _, _, _, _, .cons r t, u => .cons r (t.append u)
theorem RpDT.look : ∀ {ks : List (List Key × V)} {ds : DKv}, RpDT K G ks ds → ∀ k : List Key, (valV ks k = none ∧ lookDT ds (kPT k) = none) ∨ ∃ v d, valV ks k = some v ∧ lookDT ds (kPT k) = some d ∧ Rp K G v d
  | _, _, .nil, k => .inl ⟨rfl, rfl⟩
  | _, _, .cons (k := a) (v := v) (d := d) (ks := ks) (ds := ds) r t, k => by
    have h1 : lookDT ((kPT a, d) :: ds) (kPT k) = if a = k then some d else lookDT ds (kPT k) := by
      unfold lookDT
      rw [List.find?_cons, keqT_kP]
      by_cases e : a = k
      · rw [decide_eq_true e, if_pos e]; rfl
      · rw [decide_eq_false e, if_neg e]
    by_cases e : a = k
    · rw [if_pos e] at h1
      exact .inr ⟨v, d, valV_pos e, h1, r⟩
    · rw [if_neg e] at h1
      rw [h1, valV_neg e]
      exact t.look k
theorem RpDT.any : ∀ {ks : List (List Key × V)} {ds : DKv}, RpDT K G ks ds → ∀ k : List Key, (ks.any fun p => decide (p.1 = k)) = ds.any fun p => keqT p.1 (kPT k)
  | _, _, .nil, k => rfl
  | _, _, .cons (k := a) r t, k => by rw [List.any_cons, List.any_cons, keqT_kP, t.any k]
theorem RpDT.over {v : V} {d : PyData} (k : List Key) (r : Rp K G v d) : ∀ {ks : List (List Key × V)} {ds : DKv}, RpDT K G ks ds → RpDT K G (ks.map (fun kv => if kv.1 = k then (kv.1, v) else kv)) (ds.map fun p => if keqT p.1 (kPT k) = true then (p.1, d) else p)
  | _, _, .nil => .nil
  | _, _, .cons (k := a) r1 t => by
    rw [List.map_cons, List.map_cons, keqT_kP]
    by_cases q : a = k
    · rw [if_pos q, if_pos (decide_eq_true q)]
      exact .cons r (RpDT.over k r t)
    · rw [if_neg q, if_neg (by rw [decide_eq_false q]; decide)]
      exact .cons r1 (RpDT.over k r t)
theorem RpDT.put {ks : List (List Key × V)} {ds : DKv} {v : V} {d : PyData} (h : RpDT K G ks ds) (k : List Key) (r : Rp K G v d) : RpDT K G (putK ks k v) (putDT ds (kPT k) d) := by
  unfold putK putDT
  rw [h.any k]
  split
  · exact h.over k r
  · exact h.append (.cons r .nil)
end
/-- a dict with tuples as keys, at an address of its own -/
def DTR : Res where
  rep := fun K G H v d fp => ∃ p ks ds, v = .ref p ∧ G p = none ∧ H p = some (.dT ks) ∧ d = .dict ds ∧ RpDT K G ks ds ∧ ∀ a, fp a ↔ a = p
  frame := by
    rintro K G H G' H' v d fp ⟨p, ks, ds, e0, h1, h2, h3, h4, h5⟩ s k
    have q := k p ((h5 p).mpr rfl)
    exact ⟨p, ks, ds, e0, q.2.trans h1, q.1.trans h2, h3, h4.mono s, h5⟩
  own := by
    rintro K G H v d fp ⟨p, ks, ds, e0, h1, h2, _, _, h5⟩ a ha
    obtain rfl := (h5 a).mp ha
    exact ⟨h1, _, h2⟩
def rhoT : Nat → Res := fun k => if k = 2 then DTR else R0
def fTNew : FE := fun e => some (.ok (.b (.rs 2 (.dict []))) e)
def fTGet (i : Nat) (fk : FE) : FE := fun e => match at? e i with
  | some (.rs 2 _) => bnd (fk e) fun o e1 => match at? e1 i with
    | some (.rs 2 (.dict ds)) => (res e1 o).bind fun k => if isKT k = true then (lookDT ds k).map fun d => .ok (.b (.fr d)) e1 else none
    | _ => none
  | _ => none
def fTIn (neg : Bool) (i : Nat) (fk : FE) : FE := fun e => bnd (fk e) fun o e1 => match at? e1 i with
  | some (.rs 2 (.dict ds)) => (res e1 o).bind fun k => if isKT k = true then some (.ok (.b (.fr (.bool ((lookDT ds k).isSome != neg)))) e1) else none
  | _ => none
def sTPut (i : Nat) (fx fv : FE) : FS := fun e => bndS (fv e) fun o e1 => (fz e1 o).bind fun p => match at? p.2 i with
  | some (.rs 2 _) => bndS (fx p.2) fun o2 e2 => match at? e2 i with
    | some (.rs 2 (.dict ds)) => (res e2 o2).bind fun k => if isKT k = true ∧ ds.length < big then some (.nx (e2.set i (some (.rs 2 (.dict (putDT ds k p.1)))))) else none
    | _ => none
  | _ => none
section
variable {X : Cx} {ρ : Nat → Res} {W : WX} {pn : List Nat} {a b : Expr} {pos p2 ps apos cpos : Pos} {fx fv fk : FE}
theorem dtr_of {C : Cc} (hρ : C.rho 2 = DTR) {π : List (Nat × V)} {e : Env} {σ : St} {w : WS} {i : Nat} {d : PyData} (m : Mt C π e σ w) (h : at? e i = some (.rs 2 d)) :
    ∃ p ks ds, σ[i]? = some (some (.ref p)) ∧ w.G p = none ∧ w.H p = some (.dT ks) ∧ d = .dict ds ∧ RpDT C.K w.G ks ds ∧ ∀ a, w.fp i a ↔ a = p := by
  obtain ⟨v, h1, h2⟩ := m.bok i _ h
  have h3 : DTR.rep C.K w.G w.H v d (w.fp i) := by
    have : (C.rho 2).rep C.K w.G w.H v d (w.fp i) := h2
    rwa [hρ] at this
  obtain ⟨p, ks, ds, rfl, g1, g2, g3, g4, g5⟩ := h3
  exact ⟨p, ks, ds, h1, g1, g2, g3, g4, g5⟩
theorem ve_tnew (hρ : ρ 2 = DTR) : VE X ρ W (.Dict [] [] pos) fTNew := by
  refine ⟨_, pe_dnewT, fun π e σ w Q m h => fun q hq => ?_⟩
  have m2 := m.new (o := .dT []) hq
  have f2 := Frm.new (o := .dT []) hq
  refine h (.ref q) (w.new q (.dT [])) m2 f2 ⟨fun a => a = q, ?_, fun a ha => ?_⟩
  · show (ρ 2).rep X.K w.G (upd w.H q (.dT [])) (.ref q) (.dict []) _
    rw [hρ]
    exact ⟨q, [], [], rfl, m.sub.free hq, upd_same, rfl, .nil, fun _ => Iff.rfl⟩
  · subst ha
    exact ⟨.inl hq, m.notOwned hq⟩
theorem ve_tget (hρ : ρ 2 = DTR) (i : Nat) {y : Str} (hu : X.A.units + 1 < cLine) (hb : VE X ρ W a fk)
    (hN : X.N[i]? = some y := by rfl) (hv : Vis X.env.scope y := by first | exact Or.inl rfl | exact Or.inr (Or.inl rfl) | exact Or.inr (Or.inr rfl)) (hd : (y == ("__debug__" : Str)) = false := by decide) (hcd : (y == ("__classdict__" : Str)) = false := by decide)
    (hs : NoSl a := by exact fun _ _ => rfl) : VE X ρ W (.Subscript (.Name y p2) a pos) (fTGet i fk) := by
  obtain ⟨t2, pb, s2⟩ := hb
  refine ⟨_, pe_dget hu (pe_var hN hv hd hcd) pb hs, fun π e σ w Q m h => ?_⟩
  unfold fTGet at h
  split at h
  case h_2 => exact h.elim
  rename_i d0 q0
  obtain ⟨p, ks0, ds0, h0, _⟩ := dtr_of (C := cc X ρ) hρ m q0
  refine ⟨.ref p, h0, s2 π e σ w _ m (h.bnd fun o2 e2 v2 w2 m2 f2 k2 h2 => ?_)⟩
  split at h2
  case h_2 => exact h2.elim
  rename_i ds q1
  obtain ⟨p', ks, ds', h1, g1, g2, g3, g4, g5⟩ := dtr_of (C := cc X ρ) hρ m2 q1
  rw [h0] at h1
  cases h1
  cases g3
  cases q2 : res e2 o2 with
  | none => rw [q2] at h2; exact h2.elim
  | some d2 =>
    rw [q2, Option.bind_some] at h2
    split at h2
    case isFalse => exact h2.elim
    rename_i hk
    obtain ⟨b, e4, hb⟩ := kT_rq m2.sub (res_sound m2 k2 q2) hk
    rcases g4.look (keyT d2) with ⟨z1, z2⟩ | ⟨v, d, z1, z2, z3⟩
    · rw [kPT_keyT hk] at z2; rw [z2] at h2; exact h2.elim
    · rw [kPT_keyT hk] at z2
      rw [z2] at h2
      subst e4
      exact ⟨p, v, rfl, by rw [← z1]; exact DGet.t g2 hb, h2 _ w2 m2 f2 (.fr z3)⟩
theorem se_tin (hρ : ρ 2 = DTR) (neg : Bool) (i : Nat) {t : TE} (s2 : SE (cc X ρ) W t fk) : SE (cc X ρ) W (if neg then tDNotIn t (tVar i) else tDIn t (tVar i)) (fTIn neg i fk) := by
  have key : ∀ (π : List (Nat × V)) (e : Env) (σ : St) (w : WS) (Q : VK), Mt (cc X ρ) π e σ w → Post (cc X ρ) W π σ w (fTIn neg i fk e) (OOk (cc X ρ) σ w) Q →
      t σ w.H fun y H1 => tVar i σ H1 fun x H2 => ∃ a o, x = .ref a ∧ DGet H2 a y o ∧ Q (.bl (o.isSome != neg)) H2 := by
    intro π e σ w Q m h
    refine s2 π e σ w _ m (h.bnd fun o2 e2 v2 w2 m2 f2 k2 h2 => ?_)
    split at h2
    case h_2 => exact h2.elim
    rename_i ds q1
    obtain ⟨p, ks, ds', h1, g1, g2, g3, g4, g5⟩ := dtr_of (C := cc X ρ) hρ m2 q1
    cases g3
    cases q2 : res e2 o2 with
    | none => rw [q2] at h2; exact h2.elim
    | some d2 =>
      rw [q2, Option.bind_some] at h2
      split at h2
      case isFalse => exact h2.elim
      rename_i hk
      obtain ⟨b, e4, hb⟩ := kT_rq m2.sub (res_sound m2 k2 q2) hk
      subst e4
      refine ⟨.ref p, h1, p, valV ks (keyT d2), rfl, DGet.t g2 hb, ?_⟩
      have hE : (lookDT ds d2).isSome = (valV ks (keyT d2)).isSome := by
        rcases g4.look (keyT d2) with ⟨z1, z2⟩ | ⟨v, d, z1, z2, z3⟩
        · rw [kPT_keyT hk] at z2; rw [z1, z2]; rfl
        · rw [kPT_keyT hk] at z2; rw [z1, z2]; rfl
      rw [← hE]
      exact h2 _ w2 m2 f2 (.fr (.bl _))
  cases neg with
  | false =>
      intro π e σ w Q m h
      have := key π e σ w Q m h
      simp only [Bool.bne_false] at this
      exact this
  | true =>
      intro π e σ w Q m h
      have := key π e σ w Q m h
      simp only [Bool.bne_true] at this
      exact this
theorem vt_tnotIn (hρ : ρ 2 = DTR) (i : Nat) {y : Str} (hu : X.A.units + 1 < cLine) (ha : VE X ρ W a fk)
    (hN : X.N[i]? = some y := by rfl) (hv : Vis X.env.scope y := by first | exact Or.inl rfl | exact Or.inr (Or.inl rfl) | exact Or.inr (Or.inr rfl)) (hd : (y == ("__debug__" : Str)) = false := by decide) (hcd : (y == ("__classdict__" : Str)) = false := by decide)
    (hm : behindInMarks .NotIn (.Name y p2) = false := by first | exact nomark _ | rfl) : VT X ρ W (.Compare a [.NotIn] [.Name y p2] pos) (fTest (fTIn true i fk)) := by
  obtain ⟨ta, pa, sa⟩ := ha
  exact ⟨_, pt_cmp (pc_dnotin hu pa (pe_var hN hv hd hcd)) hm, st_tB (se_tin hρ true i sa)⟩
theorem vs_tput (hρ : ρ 2 = DTR) {y : Str} {py : Pos} (hu : X.A.units + 1 < cLine) (i : Nat) (hx : VE X ρ W b fx) (hv : VE X ρ W a fv) (hN : X.N[i]? = some y := by rfl) (hvs : Vis X.env.scope y := by first | exact Or.inl rfl | exact Or.inr (Or.inl rfl) | exact Or.inr (Or.inr rfl)) (hd : (y == ("__debug__" : Str)) = false := by decide)
    (hcd : (y == ("__classdict__" : Str)) = false := by decide) (hs : swapsWith a (some (.Subscript (.Name y py) b ps)) pos.line X.env = pure false := by rfl) : VS X ρ W pn (.Assign [.Subscript (.Name y py) b ps] a pos) (sTPut i fx fv) := by
  obtain ⟨t, p, s⟩ := hx
  obtain ⟨t2, p2, s2⟩ := hv
  refine ⟨_, ps_dput hu (pe_var hN hvs hd hcd) p p2 hs, fun π e σ w D hpi m h => ?_⟩
  refine s2 π e σ w _ m (h.bnd fun o1 e1 v1 w1 m1 f1 k1 h1 => ?_)
  cases qz : fz e1 o1 with
  | none => rw [qz] at h1; exact h1.elim
  | some pr =>
  rw [qz, Option.bind_some] at h1
  obtain ⟨w2, m2, f2, eH2, rv⟩ := fz_sound (e' := pr.2) m1 f1 k1 qz
  rw [← eH2]
  split at h1
  case h_2 => exact h1.elim
  rename_i d0 q0
  obtain ⟨p0, ks0, ds0, h0, _⟩ := dtr_of (C := cc X ρ) hρ m2 q0
  refine ⟨.ref p0, h0, s π _ σ w2 _ m2 ((h1.from f2).bnd fun o3 e3 v3 w3 m3 f3 k3 h3 => ?_)⟩
  split at h3
  case h_2 => exact h3.elim
  rename_i ds q1
  obtain ⟨p', ks, ds', h4, g1, g2, g3, g4, g5⟩ := dtr_of (C := cc X ρ) hρ m3 q1
  rw [h0] at h4
  cases h4
  cases g3
  cases q2 : res e3 o3 with
  | none => rw [q2] at h3; exact h3.elim
  | some d2 =>
    rw [q2, Option.bind_some] at h3
    split at h3
    case isFalse => exact h3.elim
    rename_i hk
    obtain ⟨b, e4, hb⟩ := kT_rq m3.sub (res_sound m3 k3 q2) hk.1
    subst e4
    have gp := g4.put (keyT d2) (rv.mono f3.g)
    rw [kPT_keyT hk.1] at gp
    refine ⟨p0, upd w3.H p0 (.dT (putK ks (keyT d2) v1)), rfl, DPut.t g2 hb (by rw [g4.length]; exact Nat.lt_of_lt_of_le hk.2 big_le), ?_⟩
    refine (h3.from f3) σ { w3 with H := upd w3.H p0 (.dT (putK ks (keyT d2) v1)) } ⟨by rw [List.length_set]; exact m3.len, fun a o q => ?_, fun j b q => ?_, fun j q a z => ?_, m3.dis, m3.pin⟩ ⟨Same.refl _, fun a o q n => ⟨?_, rfl, n⟩, fun a q => ?_⟩
    · show upd w3.H p0 _ a = some o
      rw [upd_ne (ne_of_none q g1)]
      exact m3.sub a o q
    · by_cases hj : i = j
      · subst hj
        rw [at_set_same q1] at q
        cases q
        refine ⟨.ref p0, h0, ?_⟩
        show (ρ 2).rep X.K w3.G (upd w3.H p0 _) (.ref p0) _ (w3.fp i)
        rw [hρ]
        exact ⟨p0, _, _, rfl, g1, upd_same, rfl, gp, g5⟩
      · rw [at_set_ne hj] at q
        obtain ⟨u, k1, k2⟩ := m3.bok j b q
        refine ⟨u, k1, k2.mono (Same.refl _) fun a ha => ⟨upd_ne fun z => ?_, rfl⟩⟩
        subst z
        exact hj (m3.dis i j a ((g5 a).mpr rfl) ha)
    · by_cases hj : i = j
      · subst hj
        rw [at_set_same q1] at q
        cases q
      · rw [at_set_ne hj] at q
        exact m3.non j q a z
    · show upd w3.H p0 _ a = some o
      rw [upd_ne fun z => n i (by rw [z]; exact (g5 p0).mpr rfl)]
      exact q
    · by_cases z : a = p0
      · rw [z] at q
        have : upd w3.H p0 _ p0 = none := q
        rw [upd_same] at this
        cases this
      · have : upd w3.H p0 _ a = none := q
        rwa [upd_ne z] at this
end
end VL
set_option maxRecDepth 100000
namespace VL
open PySem L2 PySem.Spec PyProof.Rows
end VL
set_option maxRecDepth 100000
namespace VL
open PySem L2 PySem.Spec PyProof.Rows PySem.Calls
end VL
set_option maxRecDepth 100000
namespace VL
open PySem L2
theorem PostS.pin {C : Cc} {W : WX} {π : List (Nat × V)} {q : Nat × V} {w : WS} {r : Option SO} {D : Ends} (h : PostS C W π w r D) : PostS C W (q :: π) w r D := by
  cases r with
  | none => exact h
  | some x =>
    cases x with
    | nx e => exact fun σ' w' m f => h σ' w' m.unpin f
    | rt b e => exact fun v σ' w' m f k => h v σ' w' m.unpin f k
    | bk e => exact fun σ' w' m f => h σ' w' m.unpin f
    | ct e => exact fun σ' w' m f => h σ' w' m.unpin f
    | ex c e => exact fun σ' w' A hA m f => h σ' w' A hA m.unpin f
end VL
set_option maxRecDepth 100000
namespace VL
open PySem L2 PySem.Spec PyProof.Rows
end VL
set_option maxRecDepth 100000
namespace VL
open PySem PySem.Spec PyProof.Rows PySem.Calls PySem.SeqAt
end VL
set_option maxRecDepth 100000
namespace VL
open PySem L2 PySem.Spec PyProof.Rows
open PySem.W (alike dataLt)
open PySem.SeqAt (shaped)
end VL
set_option maxRecDepth 100000
namespace VP
open PySem L2 VL
/-- 0: thing -/
def b_is_whole : FS :=
  (sRetO (fAndV (fIsi .int (fVar 0)) (fNotV (fIsi .bool (fVar 0)))))
def h_is_whole : Fn := runF b_is_whole 1
end VP
set_option maxRecDepth 100000
namespace VP
open PySem L2 VL
end VP
set_option maxRecDepth 100000
namespace VP
open PySem L2 VL
end VP
set_option maxRecDepth 100000
namespace VP
open PySem L2 VL
/-- 0: way -/
def b_need_way : FS :=
  (sIf (tOr (tNot (fTest (fIsi .str (fVar 0)))) (fTest (fInT true ["swap", "spot", "shift"] (fVar 0)))) (sRaise "NoWay") sNil)
def h_need_way : Fn := runF b_need_way 1
end VP
set_option maxRecDepth 100000
namespace VP
open PySem L2 VL
end VP
set_option maxRecDepth 100000
namespace VP
open PySem L2 VL
/-- 0: n -/
def b_need_things : FS :=
  (sIf (tOr (tNot (fTest (fCallP h_is_whole 1 (aP (fVar 0) aNil)))) (tNot (fTest (fChain oLe oLe (fC (.int 1)) (fVar 0) (fC (.int 12)))))) (sRaise "NoNumber") sNil)
def h_need_things : Fn := runF b_need_things 1
/-- 0: r -/
def b_need_reach : FS :=
  (sIf (tOr (tNot (fTest (fCallP h_is_whole 1 (aP (fVar 0) aNil)))) (fTest (fBin oLt (fVar 0) (fC (.int 0))))) (sRaise "NoNumber") sNil)
def h_need_reach : Fn := runF b_need_reach 1
/-- 0: n, 1: found, 2: k, 3: wider, 4: at, 5: many, 6: more -/
def b_by_swap : FS :=
  (sSeq (sOwn 1 (fLst (dCons (fC (.int 1)) dNil)))
  (sSeq (sFor (iRange2 (fC (.int 2)) (fBin oAdd (fVar 0) (fC (.int 1)))) (gN 2) (sSeq (sOwn 3 (fBin oMul (fLst (dCons (fC (.int 0)) dNil)) (fBin oSub (fBin oAdd (fCB gLen (aCons (fVar 1) aNil)) (fVar 2)) (fC (.int 1)))))
  (sSeq (sFor (iEnumr (fVar 1)) (gT2 4 5) (sFor (iRange1 (fVar 2)) (gN 6) (sAugAt 3 (opI0 fun i j => i + j) (fBin oAdd (fVar 4) (fVar 6)) (fVar 5)) [6]) [4, 5, 6])
  (sAsg 1 (fVar 3)))) [2, 3, 4, 5, 6])
  (sRetO (fVar 1))))
def h_by_swap : Fn := runF b_by_swap 7
/-- 0: n, 1: nowhere, 2: k, 3: chosen, 4: found -/
def b_by_spot : FS :=
  (sSeq (sOwn 1 (fLst (dCons (fC (.int 1)) (dCons (fC (.int 0)) dNil))))
  (sSeq (sFor (iRange2 (fC (.int 2)) (fBin oAdd (fVar 0) (fC (.int 1)))) (gN 2) (sExpr (fMth 1 mAppend (dCons (fBin oMul (fBin oSub (fVar 2) (fC (.int 1))) (fBin oAdd (fBin oIx (fVar 1) (fUn oNeg (fC (.int 1)))) (fBin oIx (fVar 1) (fUn oNeg (fC (.int 2)))))) dNil))) [2])
  (sSeq (sAsg 3 (fC (.int 1)))
  (sSeq (sOwn 4 (fLst dNil))
  (sSeq (sFor (iRange1 (fBin oAdd (fVar 0) (fC (.int 1)))) (gN 2) (sSeq (sExpr (fMth 4 mAppend (dCons (fBin oMul (fVar 3) (fBin oIx (fVar 1) (fVar 2))) dNil)))
  (sAsg 3 (fBin (opI cFdiv fun i j => i / j) (fBin oMul (fVar 3) (fBin oSub (fVar 0) (fVar 2))) (fBin oAdd (fVar 2) (fC (.int 1)))))) [2])
  (sRetO (fVar 4)))))))
def h_by_spot : Fn := runF b_by_spot 5
/-- 0: n, 1: r, 2: ways, 3: thing, 4: wider, 5: taken, 6: many, 7: place, 8: more -/
def b_shifted_within : FS :=
  (sSeq (sAsg 2 (fDisp [((fC (.int 0)), (fC (.int 1)))]))
  (sSeq (sFor (iRange1 (fVar 0)) (gN 3) (sSeq (sOwn 4 fDNew)
  (sSeq (sFor (iSeq (fUn oItems (fVar 2))) (gT2 5 6) (sFor (iRange2 (fCB gMax (aCons (fC (.int 0)) (aCons (fBin oSub (fVar 3) (fVar 1)) aNil))) (fCB gMin (aCons (fVar 0) (aCons (fBin oAdd (fBin oAdd (fVar 3) (fVar 1)) (fC (.int 1))) aNil)))) (gN 7) (sIf (fTest (fBin oEq (fBin oAnd (fBin oShr (fVar 5) (fVar 7)) (fC (.int 1))) (fC (.int 0)))) (sSeq (sAsg 8 (fBin oOr (fVar 5) (fBin oShl (fC (.int 1)) (fVar 7))))
  (sPutD 4 (fVar 8) (fBin oAdd (fDGet2 (fVar 4) (fVar 8) (fC (.int 0))) (fVar 6)))) sNil) [7, 8]) [5, 6, 7, 8])
  (sAsg 2 (fVar 4)))) [3, 4, 5, 6, 7, 8])
  (sRetO (fCB gSum (aCons (fUn oVals (fVar 2)) aNil)))))
def h_shifted_within : Fn := runF b_shifted_within 9
/-- 0: way, 1: n, 2: r, 3: counts -/
def b_within_by : FS :=
  (sSeq (sIf (fTest (fBin oLt (fVar 2) (fC (.int 0)))) (sRetO (fC (.int 0))) sNil)
  (sSeq (sIf (fTest (fBin oEq (fVar 0) (fC (.str "shift")))) (sRetO (fCallP h_shifted_within 2 (aP (fVar 1) (aP (fCB gMin (aCons (fVar 2) (aCons (fBin oSub (fVar 1) (fC (.int 1))) aNil))) aNil)))) sNil)
  (sSeq (sAsg 3 (fCall h_by_spot 1 [] (aF (fVar 1) aNil)))
  (sSeq (sIf (fTest (fBin oEq (fVar 0) (fC (.str "swap")))) (sAsg 3 (fCall h_by_swap 1 [] (aF (fVar 1) aNil))) sNil)
  (sRetO (fCB gSum (aCons (fSl (fVar 3) oNo (oSome (fBin oAdd (fCB gMin (aCons (fVar 2) (aCons (fBin oMul (fVar 1) (fVar 1)) aNil))) (fC (.int 1))))) aNil)))))))
def h_within_by : Fn := runF b_within_by 4
/-- 0: way, 1: n, 2: r -/
def b_count_at : FS :=
  (sSeq (sExpr (fCallP h_need_way 1 (aP (fVar 0) aNil)))
  (sSeq (sExpr (fCallP h_need_things 1 (aP (fVar 1) aNil)))
  (sSeq (sExpr (fCallP h_need_reach 1 (aP (fVar 2) aNil)))
  (sRetO (fBin oSub (fCallP h_within_by 3 (aP (fVar 0) (aP (fVar 1) (aP (fVar 2) aNil)))) (fCallP h_within_by 3 (aP (fVar 0) (aP (fVar 1) (aP (fBin oSub (fVar 2) (fC (.int 1))) aNil)))))))))
def h_count_at : Fn := runF b_count_at 3
/-- 0: way, 1: n, 2: r -/
def b_count_within : FS :=
  (sSeq (sExpr (fCallP h_need_way 1 (aP (fVar 0) aNil)))
  (sSeq (sExpr (fCallP h_need_things 1 (aP (fVar 1) aNil)))
  (sSeq (sExpr (fCallP h_need_reach 1 (aP (fVar 2) aNil)))
  (sRetO (fCallP h_within_by 3 (aP (fVar 0) (aP (fVar 1) (aP (fVar 2) aNil))))))))
def h_count_within : Fn := runF b_count_within 3
end VP
set_option maxRecDepth 100000
namespace VL
open PySem L2
/-- keeps simp from computing in the kernel -/
theorem tr {α : Sort u} {a b : α} (h : a = b) : a = b := h
section
variable {α β : Type} {a : α} {e e1 : VL.Env} {x : Option B} {i : Nat} {b : B} {d : PyData} {c : Str}
@[simp] theorem x_bnd_ok {k : α → VL.Env → Option (Out β)} : bnd (some (.ok a e)) k = k a e := rfl
@[simp] theorem x_bnd_ex {k : α → VL.Env → Option (Out β)} : bnd (some (.ex c e)) k = some (.ex c e) := rfl
@[simp] theorem x_bndS_ok {k : α → VL.Env → Option SO} : bndS (some (.ok a e)) k = k a e := rfl
@[simp] theorem x_bndS_ex {k : α → VL.Env → Option SO} : bndS (some (.ex c e)) k = some (.ex c e) := rfl
@[simp] theorem x_at0 : at? (x :: e) 0 = x := rfl
@[simp] theorem x_at1 : at? (x :: e) (i + 1) = at? e i := rfl
@[simp] theorem x_dat1 : (B.fr d).dat = some d := rfl
@[simp] theorem x_dat2 {ds : List PyData} : (B.ow ds).dat = some (.list ds) := rfl
@[simp] theorem x_dat3 {ds : List (PyData × PyData)} : (B.od ds).dat = some (.dict ds) := rfl
@[simp] theorem x_dat4 : (B.ex c).dat = none := rfl
@[simp] theorem x_dat5 {ns : List Int} : (B.sc ns).dat = none := rfl
@[simp] theorem x_dat6 {k : Nat} : (B.rs k d).dat = none := rfl
@[simp] theorem x_res_s : res e (.s i) = (at? e i).bind B.dat := rfl
@[simp] theorem x_res_b : res e (.b b) = b.dat := rfl
@[simp] theorem x_fz_fr : fz e (.b (.fr d)) = some (d, e) := rfl
@[simp] theorem x_fz_ow {ds : List PyData} : fz e (.b (.ow ds)) = some (.list ds, e) := rfl
@[simp] theorem x_fz_od {ds : List (PyData × PyData)} : fz e (.b (.od ds)) = some (.dict ds, e) := rfl
@[simp] theorem x_fz_s : fz e (.s i) = match at? e i with
    | some (.fr d) => some (d, e)
    | some (.ow ds) => some (.list ds, e.set i (some (.fr (.list ds))))
    | some (.od kvs) => some (.dict kvs, e.set i (some (.fr (.dict kvs))))
    | some (.tr t) => t.dat.map fun d => (d, e.set i (some (.fr d)))
    | _ => none := rfl
@[simp] theorem x_fzB_fr : fzB e (.b (.fr d)) = some (.fr d, e) := rfl
@[simp] theorem x_fzB_ow {ds : List PyData} : fzB e (.b (.ow ds)) = some (.fr (.list ds), e) := rfl
@[simp] theorem x_fzB_od {ds : List (PyData × PyData)} : fzB e (.b (.od ds)) = some (.fr (.dict ds), e) := rfl
@[simp] theorem x_fzB_ex : fzB e (.b (.ex c)) = some (.ex c, e) := rfl
@[simp] theorem x_fzB_sc {ns : List Int} : fzB e (.b (.sc ns)) = some (.sc ns, e) := rfl
@[simp] theorem x_fzB_s : fzB e (.s i) = match at? e i with
    | some (.ex c) => some (.ex c, e)
    | some (.sc ns) => some (.sc ns, e)
    | _ => (fz e (.s i)).map fun p => (.fr p.1, p.2) := rfl
@[simp] theorem x_okD : okD d e = some (.ok (.b (.fr d)) e) := tr rfl
@[simp] theorem x_fVar : fVar i e = match at? e i with
  | some _ => some (.ok (.s i) e)
  | none => none := tr rfl
@[simp] theorem x_fC : fC d e = some (.ok (.b (.fr d)) e) := tr rfl
@[simp] theorem x_fBin {op : PyData → PyData → Option B} {fa fb : FE} : fBin op fa fb e = bnd (fa e) fun o1 e1 => bnd (fb e1) fun o2 e2 => (res e2 o1).bind fun x => (res e2 o2).bind fun y => (op x y).bind fun z => some (.ok (.b z) e2) := tr rfl
@[simp] theorem x_fUn {op : PyData → Option B} {fa : FE} : fUn op fa e = bnd (fa e) fun o1 e1 => (res e1 o1).bind fun x => (op x).bind fun z => some (.ok (.b z) e1) := tr rfl
@[simp] theorem x_dNil : dNil e = some (.ok [] e) := tr rfl
@[simp] theorem x_dCons {f : FE} {r : FD} : dCons f r e = bnd (f e) fun o e1 => (fz e1 o).bind fun p => bnd (r p.2) fun ds e2 => some (.ok (p.1 :: ds) e2) := tr rfl
@[simp] theorem x_fLst {r : FD} : fLst r e = bnd (r e) fun ds e1 => if ds.length ≤ 1000 then some (.ok (.b (.ow ds)) e1) else none := tr rfl
@[simp] theorem x_fTup {r : FD} : fTup r e = bnd (r e) fun ds e1 => if ds.length ≤ 1000 then some (.ok (.b (.fr (.tuple ds))) e1) else none := tr rfl
@[simp] theorem x_fTest {f : FE} : fTest f e = bnd (f e) fun o e1 => match res e1 o with
  | some (.bool b) => some (.ok b e1)
  | _ => none := tr rfl
@[simp] theorem x_fIf {t : FT} {fa fb : FE} : fIf t fa fb e = bnd (t e) fun b e1 => match b with
  | true => fa e1
  | false => fb e1 := tr rfl
@[simp] theorem x_tAnd {t u : FT} : tAnd t u e = bnd (t e) fun b e1 => match b with
  | true => u e1
  | false => some (.ok false e1) := tr rfl
@[simp] theorem x_tOr {t u : FT} : tOr t u e = bnd (t e) fun b e1 => match b with
  | true => some (.ok true e1)
  | false => u e1 := tr rfl
@[simp] theorem x_tNot {t : FT} : tNot t e = bnd (t e) fun b e1 => some (.ok (!b) e1) := tr rfl
@[simp] theorem x_sSeq {f g : FS} : sSeq f g e = match f e with
  | some (.nx e1) => g e1
  | r => r := tr rfl
@[simp] theorem x_sExpr {f : FE} : sExpr f e = bndS (f e) fun _ e1 => some (.nx e1) := tr rfl
@[simp] theorem x_sAsg {f : FE} : sAsg i f e = bndS (f e) fun o e1 => (fzB e1 o).bind fun p => some (.nx (p.2.set i (some p.1))) := tr rfl
@[simp] theorem x_sOwn {f : FE} : sOwn i f e = bndS (f e) fun o e1 => match o with
  | .b b => some (.nx (e1.set i (some b)))
  | .s _ => none := tr rfl
@[simp] theorem x_sRetO {f : FE} : sRetO f e = bndS (f e) fun o e1 => match o with
  | .b b => some (.rt b e1)
  | .s i => (at? e1 i).bind fun b => some (.rt b (e1.set i none)) := tr rfl
@[simp] theorem x_sRetN : sRetN e = some (.rt (.fr .none) e) := tr rfl
@[simp] theorem x_sNil : sNil e = some (.nx e) := tr rfl
@[simp] theorem x_sRaise : sRaise c e = some (.ex c e) := tr rfl
@[simp] theorem x_sBrk : sBrk e = some (.bk e) := tr rfl
@[simp] theorem x_sIf {t : FT} {f g : FS} : sIf t f g e = bndS (t e) fun b e1 => match b with
  | true => f e1
  | false => g e1 := tr rfl
@[simp] theorem x_aNil : aNil e = some (.ok [] e) := tr rfl
@[simp] theorem x_aCons {f : FE} {r : FA} : aCons f r e = bnd (f e) fun o e1 => bnd (r e1) fun os e2 => some (.ok (o :: os) e2) := tr rfl
@[simp] theorem x_resAll0 : resAll e [] = some [] := rfl
@[simp] theorem x_resAll1 {o : O} {os : List O} : resAll e (o :: os) = (res e o).bind fun d => (resAll e os).bind fun ds => some (d :: ds) := rfl
@[simp] theorem x_fCB {g : List PyData → Option B} {fa : FA} : fCB g fa e = bnd (fa e) fun os e1 => (resAll e1 os).bind fun ds => (g ds).bind fun z => some (.ok (.b z) e1) := tr rfl
@[simp] theorem x_fIsi {T : Ty} {fa : FE} : fIsi T fa e = bnd (fa e) fun o e1 => (res e1 o).bind fun d => okD (.bool (isD T d)) e1 := tr rfl
@[simp] theorem x_iSeq {f : FE} : iSeq f e = bnd (f e) fun o e1 => (fz e1 o).bind fun p => match p.1 with
  | .list ds => some (.ok ds p.2)
  | _ => none := tr rfl
@[simp] theorem x_sFor {fi : FI} {g : FG} {body : FS} {dead : List Nat} : sFor fi g body dead e = bndS (fi e) fun ds e1 => sForL g body dead ds e1 := tr rfl
@[simp] theorem x_forget0 : forget [] e = e := rfl
@[simp] theorem x_forget1 {vs : List Nat} : forget (i :: vs) e = forget vs (e.set i none) := rfl
@[simp] theorem x_fNotV {fa : FE} : fNotV fa e = bnd (fa e) fun o e1 => match res e1 o with
  | some (.bool b) => okD (.bool (!b)) e1
  | _ => none := tr rfl
@[simp] theorem x_fAndV {fa fb : FE} : fAndV fa fb e = bnd (fa e) fun o e1 => match res e1 o with
  | some (.bool true) => fb e1
  | some (.bool false) => okD (.bool false) e1
  | _ => none := tr rfl
@[simp] theorem x_fOrV {fa fb : FE} : fOrV fa fb e = bnd (fa e) fun o e1 => match res e1 o with
  | some (.bool true) => okD (.bool true) e1
  | some (.bool false) => fb e1
  | _ => none := tr rfl
@[simp] theorem x_fChain {g h : PyData → PyData → Option B} {fa fb fc : FE} : fChain g h fa fb fc e = bnd (fa e) fun o1 e1 => bnd (fb e1) fun o2 e2 =>
  (res e2 o1).bind fun x => (res e2 o2).bind fun y => match g x y with
    | some (.fr (.bool true)) => bnd (fc e2) fun o3 e3 => (res e3 o2).bind fun y' => (res e3 o3).bind fun z => (h y' z).bind fun r => some (.ok (.b r) e3)
    | some (.fr (.bool false)) => some (.ok (.b (.fr (.bool false))) e2)
    | _ => none := tr rfl
@[simp] theorem x_aF {f : FE} {r : FA} : aF f r e = bnd (f e) fun o e1 => (fzB e1 o).bind fun p => bnd (r p.2) fun os e2 => some (.ok (.b p.1 :: os) e2) := tr rfl
@[simp] theorem x_aM {r : FA} : aM i r e = match at? e i with
  | some _ => bnd (r e) fun os e2 => some (.ok (.s i :: os) e2)
  | none => none := tr rfl
@[simp] theorem x_aP {f : FE} {r : FA} : aP f r e = bnd (f e) fun o e1 => match o with
  | .s i => bnd (r e1) fun os e2 => some (.ok (.s i :: os) e2)
  | .b _ => (fzB e1 o).bind fun p => bnd (r p.2) fun os e2 => some (.ok (.b p.1 :: os) e2) := tr rfl
@[simp] theorem x_bindO0 : bindO e [] = some [] := rfl
@[simp] theorem x_bindOb {os : List O} : bindO e (.b b :: os) = (bindO e os).bind fun bs => some (b :: bs) := rfl
@[simp] theorem x_bindOs {os : List O} : bindO e (.s i :: os) = (at? e i).bind fun x => (bindO e os).bind fun bs => some (x :: bs) := rfl
@[simp] theorem x_putBack0 {e2 : VL.Env} : putBack e2 [] e = e := rfl
@[simp] theorem x_putBack1 {e2 : VL.Env} {j : Nat} {r : List (Nat × Nat)} : putBack e2 ((j, i) :: r) e = putBack e2 r (e.set i (at? e2 j)) := rfl
@[simp] theorem x_lendO0 : lendO e [] = some [] := rfl
@[simp] theorem x_lendOb {os : List O} : lendO e (.b b :: os) = (lendO e os).bind fun bs => some (b :: bs) := rfl
@[simp] theorem x_lendOs {os : List O} : lendO e (.s i :: os) = ((at? e i).bind lent).bind fun x => (lendO e os).bind fun bs => some (x :: bs) := rfl
@[simp] theorem x_lent1 : lent (.fr d) = some (.fr d) := rfl
@[simp] theorem x_lent2 {ds : List PyData} : lent (.ow ds) = some (.fr (.list ds)) := rfl
@[simp] theorem x_lent3 {ds : List (PyData × PyData)} : lent (.od ds) = some (.fr (.dict ds)) := rfl
@[simp] theorem x_lent4 : lent (.ex c) = some (.ex c) := rfl
@[simp] theorem x_lent5 {ns : List Int} : lent (.sc ns) = some (.sc ns) := rfl
@[simp] theorem x_flatO0 : flatO [] = true := rfl
@[simp] theorem x_flatOs {os : List O} : flatO (.s i :: os) = flatO os := rfl
@[simp] theorem x_flatO1 {os : List O} : flatO (.b (.fr d) :: os) = flatO os := rfl
@[simp] theorem x_flatO2 {os : List O} : flatO (.b (.ex c) :: os) = flatO os := rfl
@[simp] theorem x_flatO3 {os : List O} {ns : List Int} : flatO (.b (.sc ns) :: os) = flatO os := rfl
@[simp] theorem x_fCallP {F : Fn} {n : Nat} {fa : FA} : fCallP F n fa e = bnd (fa e) fun os e1 => if flatO os = true then (lendO e1 os).bind fun bs => if bs.length = n then match F bs with
  | some (.ret (.fr d) _) => if isFlat d = true then okD d e1 else none
  | some (.ex c _) => some (.ex c e1)
  | _ => none else none else none := tr rfl
@[simp] theorem x_fCall {F : Fn} {n : Nat} {mi : List (Nat × Nat)} {fa : FA} : fCall F n mi fa e = bnd (fa e) fun os e1 => if (slotsOk mi 0 os && miOk mi os && os.length == n) = true then (bindO e1 os).bind fun bs => match F bs with
  | none => none
  | some (.ret b e2) => some (.ok (.b b) (putBack e2 mi e1))
  | some (.ex c e2) => some (.ex c (putBack e2 mi e1)) else none := tr rfl
@[simp] theorem x_slotsOk0 {mi : List (Nat × Nat)} {j : Nat} : slotsOk mi j [] = true := rfl
@[simp] theorem x_slotsOks {mi : List (Nat × Nat)} {j : Nat} {os : List O} : slotsOk mi j (.s i :: os) = (decide ((j, i) ∈ mi) && slotsOk mi (j + 1) os) := rfl
@[simp] theorem x_slotsOk1 {mi : List (Nat × Nat)} {j : Nat} {os : List O} : slotsOk mi j (.b (.fr d) :: os) = slotsOk mi (j + 1) os := rfl
@[simp] theorem x_slotsOk2 {mi : List (Nat × Nat)} {j : Nat} {os : List O} : slotsOk mi j (.b (.ex c) :: os) = slotsOk mi (j + 1) os := rfl
@[simp] theorem x_slotsOk3 {mi : List (Nat × Nat)} {j : Nat} {os : List O} {ns : List Int} : slotsOk mi j (.b (.sc ns) :: os) = slotsOk mi (j + 1) os := rfl
@[simp] theorem x_miOk0 {os : List O} : miOk [] os = true := rfl
@[simp] theorem x_miOk1 {os : List O} {j : Nat} {mi : List (Nat × Nat)} : miOk ((j, i) :: mi) os = ((match os[j]? with
  | some (.s k) => k == i
  | _ => false) && miOk mi os) := rfl
@[simp] theorem x_isFlat1 : isFlat .none = true := rfl
@[simp] theorem x_isFlat2 {b : Bool} : isFlat (.bool b) = true := rfl
@[simp] theorem x_isFlat3 {i : Int} : isFlat (.int i) = true := rfl
@[simp] theorem x_isFlat4 {x : Str} : isFlat (.str x) = true := rfl
@[simp] theorem x_fMth {g : List PyData → List PyData → Option (B × List PyData)} {fd : FD} : fMth i g fd e = match at? e i with
  | some (.ow _) => bnd (fd e) fun as e1 => match at? e1 i with
    | some (.ow ds) => (g ds as).bind fun p => some (.ok (.b p.1) (e1.set i (some (.ow p.2))))
    | _ => none
  | _ => none := tr rfl
@[simp] theorem x_fScLen {fa : FE} : fScLen fa e = bnd (fa e) fun o e1 => match bOf e1 o with
  | some (.sc ns) => okD (.int ns.length) e1
  | _ => none := tr rfl
@[simp] theorem x_fScIx {fa fb : FE} : fScIx fa fb e = bnd (fa e) fun o e1 => bnd (fb e1) fun o2 e2 => match bOf e2 o, res e2 o2 with
  | some (.sc ns), some (.int i) => (atI ns i).bind fun n => okD (.int n) e2
  | _, _ => none := tr rfl
@[simp] theorem x_bOfs : bOf e (.s i) = at? e i := rfl
@[simp] theorem x_bOfb : bOf e (.b b) = some b := rfl
@[simp] theorem x_iRange1 {f : FE} : iRange1 f e = bnd (f e) fun o e1 => match res e1 o with
  | some (.int j) => if lim j = true then some (.ok (rngN 0 j.toNat) e1) else none
  | _ => none := tr rfl
@[simp] theorem x_iRange2 {f g : FE} : iRange2 f g e = bnd (f e) fun o e1 => bnd (g e1) fun o2 e2 => match res e2 o, res e2 o2 with
  | some (.int i), some (.int j) => if lim i = true ∧ lim j = true then some (.ok (rngN i (j - i).toNat) e2) else none
  | _, _ => none := tr rfl
@[simp] theorem x_gN : gN i d e = some (e.set i (some (.fr d))) := tr rfl
@[simp] theorem x_fListRg1 {fa : FE} : fListRg1 fa e = bnd (fa e) fun o e1 => match res e1 o with
  | some (.int j) => if rgOk 0 j = true then some (.ok (.b (.ow (rngN 0 j.toNat))) e1) else none
  | _ => none := tr rfl
@[simp] theorem x_fLc {fi : FI} {g : FG} {t : FT} {f : FE} {vs : List Nat} : fLc fi g t f vs e = bnd (fi e) fun ds e1 => fLcL g t f vs ds [] (forget vs e1) := tr rfl
@[simp] theorem x_tTrue : tTrue e = some (.ok true e) := tr rfl
@[simp] theorem x_sPut2 {fx fy : FE} {j : Nat} {fd : FD} : sPut2 i fx j fy fd e = bndS (fd e) fun ds e1 => match ds with
  | [a, b] => bndS (putAt i fx a e1) fun _ e2 => bndS (putAt j fy b e2) fun _ e3 => some (.nx e3)
  | _ => none := tr rfl
@[simp] theorem x_sPut {fx fv : FE} : sPut i fx fv e = bndS (fv e) fun o e1 => (fz e1 o).bind fun p => bndS (putAt i fx p.1 p.2) fun _ e2 => some (.nx e2) := tr rfl
@[simp] theorem x_putAt {f : FE} : putAt i f d e = match at? e i with
  | none => none
  | some _ => bnd (f e) fun o e1 => match res e1 o, at? e1 i with
    | some (.int k), some (.ow ds) => (ixN ds.length k).bind fun j => some (.ok () (e1.set i (some (.ow (ds.set j d)))))
    | _, _ => none := tr rfl
@[simp] theorem x_sNewP : sNewP i e = some (.nx (e.set i (some (.rs 1 (.list []))))) := tr rfl
@[simp] theorem x_sAppP {fd : FD} : sAppP i fd e = match at? e i with
  | some (.rs 1 _) => bndS (fd e) fun ds e1 => match ds, at? e1 i with
    | [.int a, .int b, .int c], some (.rs 1 (.list l)) => if l.length < big then some (.nx (e1.set i (some (.rs 1 (.list (l ++ [encP (a, b, c)])))))) else none
    | _, _ => none
  | _ => none := tr rfl
@[simp] theorem x_fDeck : fDeck i e = match at? e i with
  | some (.rs 1 (.list l)) => some (.ok (.b (.rs 0 (.list [.list l, .int 0]))) (e.set i none))
  | _ => none := tr rfl
@[simp] theorem x_oAddI {i j : Int} : oAdd (.int i) (.int j) = some (.fr (.int (i + j))) := tr rfl
@[simp] theorem x_opI0 {g : Int → Int → Int} {i j : Int} : opI0 g (.int i) (.int j) = some (.fr (.int (g i j))) := tr rfl
@[simp] theorem x_opB0 {g : Int → Int → Bool} {i j : Int} : opB0 g (.int i) (.int j) = some (.fr (.bool (g i j))) := tr rfl
@[simp] theorem x_opI {C : Int → Int → Bool} {g : Int → Int → Int} {i j : Int} : opI C g (.int i) (.int j) = if C i j = true then some (.fr (.int (g i j))) else none := tr rfl
@[simp] theorem x_oMulI {i j : Int} : oMul (.int i) (.int j) = if cMul i j = true then some (.fr (.int (i * j))) else none := tr rfl
@[simp] theorem x_gInt1 {i : Int} : gInt [.int i] = some (.fr (.int i)) := tr rfl
@[simp] theorem x_gInt2 {b : Bool} : gInt [.bool b] = some (.fr (.int (if b then 1 else 0))) := tr rfl
@[simp] theorem x_gMax2 {i j : Int} : gMax [.int i, .int j] = some (.fr (.int (if j > i then j else i))) := tr rfl
@[simp] theorem x_gMin2 {i j : Int} : gMin [.int i, .int j] = some (.fr (.int (if j < i then j else i))) := tr rfl
@[simp] theorem x_gLenL {ds : List PyData} : gLen [.list ds] = some (.fr (.int ds.length)) := tr rfl
@[simp] theorem x_oIxL {ds : List PyData} {i : Int} : oIx (.list ds) (.int i) = (atI ds i).map .fr := tr rfl
@[simp] theorem x_oEqI {i j : Int} : oEq (.int i) (.int j) = some (.fr (.bool (decide (i = j)))) := by
  have h : ∀ k : Int, SeqAt.shaped (.int k) = true := fun k => by
    unfold SeqAt.shaped
    rw [PyData.canLay0, PyData.depth]
    rfl
  unfold oEq
  rw [if_pos ⟨h i, h j⟩, PyData.eqv]
  rfl
end
theorem asInts_map : ∀ ns : List Int, asInts (ns.map .int) = some ns
  | [] => rfl
  | n :: ns => by
    show (asInts (ns.map .int)).map (n :: ·) = some (n :: ns)
    rw [asInts_map ns]
    rfl
end VL
set_option maxRecDepth 100000
namespace VL
open PySem L2 PySem.W PySem.SeqAt
class Lay (α : Type) [DecidableEq α] [Datum α] : Prop where
  lay : ∀ a : α, (Datum.toD a).canLay0 = true
  small : Datum.depth α ≤ 64
instance : Lay Int := ⟨fun _ => by show (PyData.int _).canLay0 = true; rw [PyData.canLay0], by decide⟩
instance : Lay Bool := ⟨fun _ => by show (PyData.bool _).canLay0 = true; rw [PyData.canLay0], by decide⟩
theorem layAll {α : Type} [DecidableEq α] [Datum α] [Lay α] : ∀ xs : List α, PyData.canLayAll0 (xs.map Datum.toD) = true
  | [] => rfl
  | x :: xs => by
    rw [List.map_cons, PyData.canLayAll0, Lay.lay x, layAll xs]
    rfl
theorem lay_lst {α : Type} [DecidableEq α] [Datum α] [Lay α] (xs : List α) : (Datum.toD xs).canLay0 = true := by
  show (PyData.list (xs.map Datum.toD)).canLay0 = true
  rw [PyData.canLay0]
  exact layAll xs
instance : Lay (List Int) := ⟨lay_lst, by decide⟩
instance : Lay (List (List Int)) := ⟨lay_lst, by decide⟩
instance : Lay (List (List (List Int))) := ⟨lay_lst, by decide⟩
instance : Lay (List Bool) := ⟨lay_lst, by decide⟩
section
variable {α : Type} [DecidableEq α] [Datum α] [Lay α]
theorem shaped_toD (a : α) : shaped (Datum.toD a) = true := by
  unfold shaped
  rw [Lay.lay a, decide_eq_true (Nat.le_trans (Datum.depth_le a) Lay.small)]
  rfl
theorem o_eq (a b : α) : oEq (Datum.toD a) (Datum.toD b) = some (.fr (.bool (decide (a = b)))) := by
  unfold oEq
  rw [if_pos ⟨shaped_toD a, shaped_toD b⟩, Datum.eqv]
end
end VL
set_option maxRecDepth 100000
namespace VP
open PySem L2 VL PySem.W PySem.SeqAt
/-- the numbers from 0 on -/
def iota (n : Nat) : List Int := (List.range n).map fun (i : Nat) => (i : Int)
/-- just the numbers from 0 on -/
def IsOrd (n : Nat) (xs : List Int) : Prop := xs.Perm (iota n)
theorem IsOrd.length {n : Nat} {xs : List Int} (h : IsOrd n xs) : xs.length = n := by
  rw [List.Perm.length_eq h, iota, List.length_map, List.length_range]
end VP
set_option maxRecDepth 100000
namespace VP
open PySem L2 VL PySem.W PySem.SeqAt
end VP
set_option maxRecDepth 100000
namespace VP
open PySem L2 VL PySem.W PySem.SeqAt
theorem ixN_of {n : Nat} {i : Int} (h0 : 0 ≤ i) (h1 : i < n) : ixN n i = some i.toNat := by
  unfold ixN
  rw [if_pos h0, if_pos h1]
end VP
set_option maxRecDepth 100000
namespace VP
open PySem L2 VL PySem.W PySem.SeqAt
end VP
set_option maxRecDepth 100000
namespace TM
open PySem L2 VL PySem.W PySem.SeqAt
inductive R (α : Type) where
  | no
  | ok (a : α)
  | ex (c : Str)
def R.bind {α β : Type} (m : R α) (k : α → R β) : R β := match m with
  | .no => .no
  | .ok a => k a
  | .ex c => .ex c
def ob {α β : Type} (m : Option α) (k : α → R β) : R β := match m with
  | none => .no
  | some a => k a
@[simp] theorem bind_ok {α β : Type} {a : α} {k : α → R β} : (R.ok a).bind k = k a := rfl
@[simp] theorem bind_no {α β : Type} {k : α → R β} : (R.no : R α).bind k = .no := rfl
@[simp] theorem bind_ex {α β : Type} {c : Str} {k : α → R β} : (R.ex c : R α).bind k = .ex c := rfl
@[simp] theorem ob_some {α β : Type} {a : α} {k : α → R β} : ob (some a) k = k a := rfl
@[simp] theorem ob_none {α β : Type} {k : α → R β} : ob (none : Option α) k = .no := rfl
theorem bind_assoc {α β γ : Type} (m : R α) (k : α → R β) (l : β → R γ) : (m.bind k).bind l = m.bind fun a => (k a).bind l := by cases m <;> rfl
/-- a list or dict of its own, by its data -/
def bow : PyData → B
  | .list ds => .ow ds
  | .dict ks => .od ks
  | x => .fr x
theorem bow_dat (x : PyData) : (bow x).dat = some x := by cases x <;> rfl
/-- what a slot is known to hold -/
inductive Sl where
  | d (x : PyData)
  | o (x : PyData)
  | rs (k : Nat) (x : PyData)
  | ex (c : Str)
  | sc (ns : List Int)
  | xo (o : Option Str)
  | t (x : Tr)
/-- None, or an error that is held -/
def xB : Option Str → B
  | none => .fr .none
  | some c => .ex c
def Sl.ok : Sl → Option B → Prop
  | .d x, b => b.bind B.dat = some x
  | .o x, b => b = some (bow x)
  | .rs k x, b => b = some (.rs k x)
  | .ex c, b => b = some (.ex c)
  | .sc ns, b => b = some (.sc ns)
  | .xo q, b => b = some (xB q)
  | .t x, b => b = some (.tr x)
abbrev Ctx := List (Option Sl)
structure Cov (Γ : Ctx) (e : VL.Env) : Prop where
  len : e.length = Γ.length
  hold : ∀ (i : Nat) (s : Sl), Γ[i]? = some (some s) → s.ok (at? e i)
/-- how a block may end -/
inductive PO where
  | nx (Γ : Ctx)
  | rt (s : Sl) (Γ : Ctx)
  | fn (Γ : Ctx)
  | bk (Γ : Ctx)
def PO.ok : PO → SO → Prop
  | .nx Γ, w => ∃ e, w = .nx e ∧ Cov Γ e
  | .rt s Γ, w => ∃ b e, w = .rt b e ∧ s.ok (some b) ∧ Cov Γ e
  | .fn Γ, w => ∃ e, (w = .nx e ∨ w = .rt (.fr .none) e) ∧ Cov Γ e
  | .bk Γ, w => ∃ e, w = .bk e ∧ Cov Γ e
abbrev KC := VL.Env → Option SO
def J (Γ : Ctx) (C : KC) {α : Type} (m : R α) (po : α → PO) : Prop := ∀ e, Cov Γ e → match m with
  | .no => True
  | .ok a => ∃ w, C e = some w ∧ (po a).ok w
  | .ex c => ∃ e', C e = some (.ex c e')
theorem J.to {Γ Γ' : Ctx} {C C' : KC} {α : Type} {m : R α} {po : α → PO} (h : J Γ' C' m po) (k : ∀ e, Cov Γ e → ∃ e', Cov Γ' e' ∧ C e = C' e') : J Γ C m po := fun e he => by
  obtain ⟨e', h1, h2⟩ := k e he
  rw [h2]
  exact h e' h1
theorem J.eq {Γ : Ctx} {C C' : KC} {α : Type} {m : R α} {po : α → PO} (h : J Γ C' m po) (k : C = C') : J Γ C m po := k ▸ h
theorem J.no {Γ : Ctx} {C : KC} {α : Type} {po : α → PO} : J Γ C (.no : R α) po := fun _ _ => True.intro
theorem j_ob {Γ : Ctx} {C : KC} {α β : Type} {m : Option α} {mk : α → R β} {po : β → PO} (h : ∀ a, m = some a → J Γ C (mk a) po) : J Γ C (ob m mk) po := by
  cases m with
  | none => exact .no
  | some a => exact h a rfl
theorem Cov.lt {Γ : Ctx} {e : VL.Env} (h : Cov Γ e) {i : Nat} {s : Option Sl} (hi : Γ[i]? = some s) : i < e.length := by
  rw [h.len]
  exact (List.getElem?_eq_some_iff.mp hi).1
theorem Cov.set {Γ : Ctx} {e : VL.Env} (h : Cov Γ e) {i : Nat} {s : Sl} {b : Option B} (hb : s.ok b) : Cov (Γ.set i (some s)) (e.set i b) := by
  refine ⟨by rw [List.length_set, List.length_set, h.len], fun j t hj => ?_⟩
  by_cases e1 : i = j
  · subst e1
    have hl : i < Γ.length := by
      have := (List.getElem?_eq_some_iff.mp hj).1
      rwa [List.length_set] at this
    rw [List.getElem?_set_self hl] at hj
    cases hj
    rw [at_set_lt (by rw [h.len]; exact hl)]
    exact hb
  · rw [List.getElem?_set_ne e1] at hj
    rw [at_set_ne e1]
    exact h.hold j t hj
theorem Cov.drop {Γ : Ctx} {e : VL.Env} (h : Cov Γ e) (i : Nat) (b : Option B) : Cov (Γ.set i none) (e.set i b) := by
  refine ⟨by rw [List.length_set, List.length_set, h.len], fun j t hj => ?_⟩
  by_cases e1 : i = j
  · subst e1
    have hl : i < Γ.length := by
      have := (List.getElem?_eq_some_iff.mp hj).1
      rwa [List.length_set] at this
    rw [List.getElem?_set_self hl] at hj
    cases hj
  · rw [List.getElem?_set_ne e1] at hj
    rw [at_set_ne e1]
    exact h.hold j t hj
/-- slots kept (1), forgotten (0), read only from here on (2) -/
def restr : List Nat → Ctx → Ctx
  | _, [] => []
  | [], _ :: Γ => none :: restr [] Γ
  | 0 :: k, _ :: Γ => none :: restr k Γ
  | 2 :: k, some (.o x) :: Γ => some (.d x) :: restr k Γ
  | _ :: k, s :: Γ => s :: restr k Γ
theorem restr_len (k : List Nat) (Γ : Ctx) : (restr k Γ).length = Γ.length := by
  induction Γ generalizing k with
  | nil => unfold restr; rfl
  | cons s Γ ih =>
    unfold restr
    split <;> simp_all
theorem Sl.weak {x : PyData} {b : Option B} (h : (Sl.o x).ok b) : (Sl.d x).ok b := by
  show b.bind B.dat = some x
  rw [show b = some (bow x) from h]
  exact bow_dat x
theorem restr_get : ∀ (k : List Nat) (Γ : Ctx) (i : Nat) (s : Sl), (restr k Γ)[i]? = some (some s) → Γ[i]? = some (some s) ∨ ∃ x, s = .d x ∧ Γ[i]? = some (some (.o x))
  | _, [], i, s, h => by unfold restr at h; simp at h
  | [], t :: Γ, i, s, h => by
    unfold restr at h
    cases i with
    | zero => simp at h
    | succ i => simpa using restr_get [] Γ i s (by simpa using h)
  | n :: k, t :: Γ, i, s, h => by
    unfold restr at h
    cases i with
    | zero =>
      split at h <;> simp_all
    | succ i =>
      have : (restr k Γ)[i]? = some (some s) := by split at h <;> simp_all
      simpa using restr_get k Γ i s this
theorem Cov.restr {Γ : Ctx} {e : VL.Env} (h : Cov Γ e) (k : List Nat) : Cov (restr k Γ) e := by
  refine ⟨by rw [restr_len, h.len], fun i s hi => ?_⟩
  rcases restr_get k Γ i s hi with h1 | ⟨x, rfl, h1⟩
  · exact h.hold i s h1
  · exact Sl.weak (h.hold i _ h1)
theorem Cov.of {Γ Γ' : Ctx} {e : VL.Env} (h : Cov Γ e) {k : List Nat} (hk : TM.restr k Γ = Γ') : Cov Γ' e := hk ▸ h.restr k
theorem Cov.own {Γ : Ctx} {e : VL.Env} (h : Cov Γ e) {i : Nat} {x : PyData} (hi : Γ[i]? = some (some (.o x))) : at? e i = some (bow x) := h.hold i _ hi
theorem Cov.dat {Γ : Ctx} {e : VL.Env} (h : Cov Γ e) {i : Nat} {x : PyData} (hi : Γ[i]? = some (some (.d x))) : res e (.s i) = some x := h.hold i _ hi
theorem Cov.datO {Γ : Ctx} {e : VL.Env} (h : Cov Γ e) {i : Nat} {x : PyData} (hi : Γ[i]? = some (some (.o x))) : res e (.s i) = some x   := Sl.weak (h.hold i _ hi)
/-- an operand is read as x -/
def Rd (Γ : Ctx) (o : O) (x : PyData) : Prop := ∀ e, Cov Γ e → res e o = some x
theorem rd_d {Γ : Ctx} {i : Nat} {x : PyData} (h : Γ[i]? = some (some (.d x))) : Rd Γ (.s i) x := fun _ he => he.dat h
theorem rd_o {Γ : Ctx} {i : Nat} {x : PyData} (h : Γ[i]? = some (some (.o x))) : Rd Γ (.s i) x := fun _ he => he.datO h
theorem rd_b {Γ : Ctx} {x : PyData} : Rd Γ (.b (.fr x)) x := fun _ _ => rfl
theorem rd_w {Γ : Ctx} {x : PyData} : Rd Γ (.b (bow x)) x := fun _ _ => bow_dat x
/-- an operand is frozen to x, with the context behind it -/
def Fz (Γ : Ctx) (o : O) (x : PyData) (Γ' : Ctx) : Prop := ∀ e, Cov Γ e → ∃ e', fz e o = some (x, e') ∧ Cov Γ' e'
theorem fz_b {Γ : Ctx} {x : PyData} : Fz Γ (.b (.fr x)) x Γ := fun e he => ⟨e, rfl, he⟩
theorem fz_w {Γ : Ctx} {x : PyData} : Fz Γ (.b (bow x)) x Γ := fun e he => ⟨e, by cases x <;> rfl, he⟩
theorem set_same {e : VL.Env} {i : Nat} {b : Option B} (h : at? e i = b) : e.set i b = e := by
  apply List.ext_getElem?
  intro j
  by_cases hj : i = j
  · subst hj
    by_cases hl : i < e.length
    · rw [List.getElem?_set_self hl, List.getElem?_eq_getElem hl]
      unfold at? at h
      rw [List.getElem?_eq_getElem hl] at h
      rw [← h]
    · rw [List.getElem?_eq_none (by rw [List.length_set]; omega), List.getElem?_eq_none (by omega)]
  · rw [List.getElem?_set_ne hj]
theorem Cov.setd {Γ : Ctx} {e : VL.Env} (h : Cov Γ e) {i : Nat} {x : PyData} (hi : Γ[i]? = some (some (.d x))) {b : B} (hb : b.dat = some x) : Cov Γ (e.set i (some b)) := by
  refine ⟨by rw [List.length_set, h.len], fun j t hj => ?_⟩
  by_cases e1 : i = j
  · subst e1
    rw [hi] at hj
    cases hj
    rw [at_set_lt (h.lt hi)]
    exact hb
  · rw [at_set_ne e1]
    exact h.hold j t hj
theorem fz_d {Γ : Ctx} {i : Nat} {x : PyData} (h : Γ[i]? = some (some (.d x))) : Fz Γ (.s i) x Γ := fun e he => by
  have h1 := he.hold i _ h
  show ∃ e', (match at? e i with
    | some (.fr d) => some (d, e)
    | some (.ow ds) => some (.list ds, e.set i (some (.fr (.list ds))))
    | some (.od kvs) => some (.dict kvs, e.set i (some (.fr (.dict kvs))))
    | some (.tr t) => t.dat.map fun d => (d, e.set i (some (.fr d)))
    | _ => none) = some (x, e') ∧ Cov Γ e'
  have h2 : (at? e i).bind B.dat = some x := h1
  cases q : at? e i with
  | none => rw [q] at h2; cases h2
  | some b =>
    rw [q] at h2
    cases b with
    | fr d => cases h2; exact ⟨e, rfl, he⟩
    | ow ds => cases h2; exact ⟨_, rfl, he.setd h rfl⟩
    | od ds => cases h2; exact ⟨_, rfl, he.setd h rfl⟩
    | ex c => cases h2
    | rs k d => cases h2
    | tr t => cases h2
    | sc ns => cases h2
theorem Cov.weak {Γ : Ctx} {e : VL.Env} (h : Cov Γ e) {i : Nat} {x : PyData} (hi : Γ[i]? = some (some (.o x))) : Cov (Γ.set i (some (.d x))) e := by
  have := h.set (i := i) (s := .d x) (b := at? e i) (Sl.weak (h.hold i _ hi))
  rwa [set_same rfl] at this
theorem fz_o {Γ : Ctx} {i : Nat} {x : PyData} (h : Γ[i]? = some (some (.o x))) : Fz Γ (.s i) x (Γ.set i (some (.d x))) := fun e he =>
  fz_d (by rw [List.getElem?_set_self (by rw [← he.len]; exact he.lt h)]) e (he.weak h)
/-- frozen for a name, an answer, an argument -/
def FzB (Γ : Ctx) (o : O) (b : B) (Γ' : Ctx) : Prop := ∀ e, Cov Γ e → ∃ e', fzB e o = some (b, e') ∧ Cov Γ' e'
theorem fzb_of {Γ Γ' : Ctx} {o : O} {x : PyData} (h : Fz Γ o x Γ') : FzB Γ o (.fr x) Γ' := fun e he => by
  obtain ⟨e', h1, h2⟩ := h e he
  refine ⟨e', ?_, h2⟩
  cases o with
  | s i =>
    unfold fzB
    unfold fz at h1
    dsimp only at h1 ⊢
    unfold fz
    cases q : at? e i with
    | none => rw [q] at h1; cases h1
    | some b =>
      rw [q] at h1
      cases b with
      | fr d => cases h1; dsimp only; rw [q]; rfl
      | ow ds => cases h1; dsimp only; rw [q]; rfl
      | od ds => cases h1; dsimp only; rw [q]; rfl
      | ex c => cases h1
      | rs k d => cases h1
      | sc ns => cases h1
      | tr t =>
        dsimp only at h1 ⊢
        rw [q]
        cases qd : t.dat with
        | none => rw [qd] at h1; cases h1
        | some d => rw [qd] at h1; cases h1; dsimp only; rw [qd]; rfl
  | b b =>
    cases b with
    | fr d => cases h1; rfl
    | ow ds => cases h1; rfl
    | od ds => cases h1; rfl
    | ex c => cases h1
    | rs k d => cases h1
    | sc ns => cases h1
    | tr t =>
      have h1' : (t.dat.map fun d => (d, e)) = some (x, e') := h1
      show ((t.dat.map fun d => (d, e)).map fun p => (B.fr p.1, p.2)) = _
      rw [h1']
      rfl
theorem fzb_sc {Γ : Ctx} {i : Nat} {ns : List Int} (h : Γ[i]? = some (some (.sc ns))) : FzB Γ (.s i) (.sc ns) Γ := fun e he => ⟨e, by
  have h1 : at? e i = some (.sc ns) := he.hold i _ h
  unfold fzB
  dsimp only
  rw [h1], he⟩
def cX {α : Type} (f : VL.Env → Option (Out α)) (K : α → KC) : KC := fun e => bndS (f e) K
theorem bndS_bnd {α β : Type} (r : Option (Out α)) (k : α → VL.Env → Option (Out β)) (K : β → KC) : bndS (bnd r k) K = bndS r fun a e => bndS (k a e) K := by
  cases r with
  | none => rfl
  | some o => cases o <;> rfl
theorem bndS_ob {α β : Type} (r : Option α) (k : α → Option (Out β)) (K : β → KC) : bndS (r.bind k) K = r.bind fun a => bndS (k a) K := by cases r <;> rfl
variable {Γ Γ' Γ1 : Ctx} {α β σ τ : Type} {m : R α} {po : α → PO} {K : O → KC} {C : KC} {o o1 o2 : O} {x y : PyData} {b z : B} {i j : Nat} {f fa fb fc : FE} {rest : FS} {op : PyData → PyData → Option B}
/-- a name that is there -/
theorem j_var {s : Sl} (h : Γ[i]? = some (some s)) (k : J Γ (K (.s i)) m po) : J Γ (cX (fVar i) K) m po := k.to fun e he => ⟨e, he, by
  have : ∃ b, at? e i = some b := by
    have h1 := he.hold i _ h
    cases q : at? e i with
    | some b => exact ⟨b, rfl⟩
    | none => rw [q] at h1; cases s <;> cases h1
  obtain ⟨b, hb⟩ := this
  show bndS (match at? e i with
  | some _ => some (Out.ok (O.s i) e)
  | none => none) K = _
  rw [hb]
  rfl⟩
theorem j_c {d : PyData} (k : J Γ (K (.b (.fr d))) m po) : J Γ (cX (fC d) K) m po := k
def cFz (o : O) (K : PyData → KC) : KC := fun e => (fz e o).bind fun p => K p.1 p.2
theorem j_fz {K : PyData → KC} (h : Fz Γ o x Γ') (k : J Γ' (K x) m po) : J Γ (cFz o K) m po := k.to fun e he => by
  obtain ⟨e', h1, h2⟩ := h e he
  exact ⟨e', h2, by show (fz e o).bind _ = _; rw [h1]; rfl⟩
def cFzB (o : O) (K : B → KC) : KC := fun e => (fzB e o).bind fun p => K p.1 p.2
theorem j_fzb {K : B → KC} (h : FzB Γ o b Γ') (k : J Γ' (K b) m po) : J Γ (cFzB o K) m po := k.to fun e he => by
  obtain ⟨e', h1, h2⟩ := h e he
  exact ⟨e', h2, by show (fzB e o).bind _ = _; rw [h1]; rfl⟩
def cOp (op : PyData → PyData → Option B) (o1 o2 : O) (K : O → KC) : KC := fun e => (res e o1).bind fun x => (res e o2).bind fun y => (op x y).bind fun z => K (.b z) e
theorem j_bin (k : J Γ (cX fa fun o1 => cX fb fun o2 => cOp op o1 o2 K) m po) : J Γ (cX (fBin op fa fb) K) m po := k.eq (funext fun e => by
  show bndS (bnd (fa e) fun o1 e1 => bnd (fb e1) fun o2 e2 => (res e2 o1).bind fun x => (res e2 o2).bind fun y => (op x y).bind fun z => some (Out.ok (O.b z) e2)) K = _
  rw [bndS_bnd]
  refine congrArg _ (funext fun a => funext fun e1 => ?_)
  rw [bndS_bnd]
  refine congrArg _ (funext fun a => funext fun e2 => ?_)
  rw [bndS_ob]
  refine congrArg _ (funext fun _ => ?_)
  rw [bndS_ob]
  refine congrArg _ (funext fun _ => ?_)
  rw [bndS_ob]
  rfl)
theorem j_op (h1 : Rd Γ o1 x) (h2 : Rd Γ o2 y) (h3 : op x y = some z) (k : J Γ (K (.b z)) m po) : J Γ (cOp op o1 o2 K) m po := k.to fun e he => ⟨e, he, by
  show (res e o1).bind _ = _
  rw [h1 e he, Option.bind_some, h2 e he, Option.bind_some, h3]
  rfl⟩
/-- an operator that may say no -/
def OpR (op : PyData → PyData → Option B) (x y : PyData) (r : Option β) (z : β → B) : Prop := ∀ a, r = some a → op x y = some (z a)
theorem j_opR {r : Option β} {z : β → B} {mk : β → R α} (h1 : Rd Γ o1 x) (h2 : Rd Γ o2 y) (h3 : OpR op x y r z) (k : ∀ a, J Γ (K (.b (z a))) (mk a) po) : J Γ (cOp op o1 o2 K) (ob r mk) po := j_ob fun a ha => j_op h1 h2 (h3 a ha) (k a)
def cUn (op : PyData → Option B) (o : O) (K : O → KC) : KC := fun e => (res e o).bind fun x => (op x).bind fun z => K (.b z) e
theorem j_un {op : PyData → Option B} (k : J Γ (cX fa fun o => cUn op o K) m po) : J Γ (cX (fUn op fa) K) m po := k.eq (funext fun e => by
  show bndS (bnd (fa e) fun o1 e1 => (res e1 o1).bind fun x => (op x).bind fun z => some (Out.ok (O.b z) e1)) K = _
  rw [bndS_bnd]
  refine congrArg _ (funext fun a => funext fun e1 => ?_)
  rw [bndS_ob]
  refine congrArg _ (funext fun _ => ?_)
  rw [bndS_ob]
  rfl)
theorem j_unop {op : PyData → Option B} (h1 : Rd Γ o x) (h3 : op x = some z) (k : J Γ (K (.b z)) m po) : J Γ (cUn op o K) m po := k.to fun e he => ⟨e, he, by
  show (res e o).bind _ = _
  rw [h1 e he, Option.bind_some, h3]
  rfl⟩
section
variable {K : List PyData → KC} {fd : FD}
theorem j_dnil (k : J Γ (K []) m po) : J Γ (cX dNil K) m po := k
theorem j_dcons (k : J Γ (cX f fun o => cFz o fun d => cX fd fun ds => K (d :: ds)) m po) : J Γ (cX (dCons f fd) K) m po := k.eq (funext fun e => by
  show bndS (bnd (f e) fun o e1 => (fz e1 o).bind fun p => bnd (fd p.2) fun ds e2 => some (Out.ok (p.1 :: ds) e2)) K = _
  rw [bndS_bnd]
  refine congrArg _ (funext fun a => funext fun e1 => ?_)
  rw [bndS_ob]
  refine congrArg _ (funext fun p => ?_)
  rw [bndS_bnd]
  rfl)
end
def cLst (ds : List PyData) (K : O → KC) : KC := fun e => if ds.length ≤ 1000 then K (.b (.ow ds)) e else none
theorem j_lst {fd : FD} (k : J Γ (cX fd fun ds => cLst ds K) m po) : J Γ (cX (fLst fd) K) m po := k.eq (funext fun e => by
  show bndS (bnd (fd e) fun ds e1 => if ds.length ≤ 1000 then some (Out.ok (O.b (.ow ds)) e1) else none) K = _
  rw [bndS_bnd]
  refine congrArg _ (funext fun a => funext fun e1 => ?_)
  unfold cLst
  split <;> rfl)
theorem j_lst2 {ds : List PyData} (x : PyData) (hx : PyData.list ds = x) (h : decide (ds.length ≤ 1000) = true) (k : J Γ (K (.b (bow x))) m po) : J Γ (cLst ds K) m po := k.to fun e he => ⟨e, he, by
  show (if ds.length ≤ 1000 then K (.b (.ow ds)) e else none) = _
  rw [if_pos (of_decide_eq_true h), ← hx]
  rfl⟩
section
variable {K : Bool → KC} {t u : FT}
def cBool (o : O) (K : Bool → KC) : KC := fun e => match res e o with
  | some (.bool b) => K b e
  | _ => none
theorem j_test (k : J Γ (cX f fun o => cBool o K) m po) : J Γ (cX (fTest f) K) m po := k.eq (funext fun e => by
  show bndS (bnd (f e) fun o e1 => match res e1 o with
    | some (.bool b) => some (Out.ok b e1)
    | _ => none) K = _
  rw [bndS_bnd]
  refine congrArg _ (funext fun a => funext fun e1 => ?_)
  unfold cBool
  split <;> rfl)
theorem j_bool {b : Bool} (h : Rd Γ o (.bool b)) (k : J Γ (K b) m po) : J Γ (cBool o K) m po := k.to fun e he => ⟨e, he, by
  unfold cBool
  rw [h e he]⟩
theorem j_not (k : J Γ (cX t fun b => K (!b)) m po) : J Γ (cX (tNot t) K) m po := k.eq (funext fun e => by
  show bndS (bnd (t e) fun b e1 => some (Out.ok (!b) e1)) K = _
  rw [bndS_bnd]
  rfl)
/-- a test told alone -/
def kB : Bool → KC := fun b e => some (.rt (.fr (.bool b)) e)
theorem j_kb {b : Bool} (h : restr l Γ = Γ') {a : α} (hp : po a = .rt (.d (.bool b)) Γ') : J Γ (kB b) (.ok a) po := fun e he => ⟨_, rfl, by
  rw [hp]
  exact ⟨_, _, rfl, rfl, he.of h⟩⟩
/-- a test, whole: what it tells, then on -/
theorem j_sub {m1 : R β} {mk : β → R α} {bv : β → Bool} {Γ1 : β → Ctx} (h : J Γ (cX t kB) m1 fun a => .rt (.d (.bool (bv a))) (Γ1 a)) (k : ∀ a, J (Γ1 a) (K (bv a)) (mk a) po) : J Γ (cX t K) (m1.bind mk) po := fun e he => by
  have h1 := h e he
  cases m1 with
  | no => trivial
  | ex c =>
    obtain ⟨e', h2⟩ := h1
    have h2' : bndS (t e) kB = some (.ex c e') := h2
    have q : t e = some (.ex c e') := by
      cases q : t e with
      | none => rw [q] at h2'; cases h2'
      | some r =>
        rw [q] at h2'
        cases r with
        | ok b e1 => cases h2'
        | ex c2 e1 => cases h2'; rfl
    show ∃ e', bndS (t e) K = _
    rw [q]
    exact ⟨_, rfl⟩
  | ok a =>
    obtain ⟨w, h2, b, e', rfl, h3, h4⟩ := h1
    have h2' : bndS (t e) kB = some (.rt b e') := h2
    have q : t e = some (.ok (bv a) e') := by
      cases q : t e with
      | none => rw [q] at h2'; cases h2'
      | some r =>
        rw [q] at h2'
        cases r with
        | ex c2 e1 => cases h2'
        | ok b1 e1 =>
          cases h2'
          cases h3
          rfl
    have h5 := k a e' h4
    show match mk a with
      | .no => True
      | .ok a => ∃ w, bndS (t e) K = some w ∧ (po a).ok w
      | .ex c => ∃ e', bndS (t e) K = some (.ex c e')
    rw [q]
    exact h5
theorem j_subB {b : Bool} (h : J Γ (cX t kB) (.ok b) fun a => .rt (.d (.bool a)) Γ) (k : J Γ (K b) m po) : J Γ (cX t K) m po := by
  have h' : J Γ (cX t kB) (.ok ()) fun _ => .rt (.d (.bool b)) Γ := fun e he => h e he
  exact j_sub (mk := fun _ => m) (bv := fun _ => b) (Γ1 := fun _ => Γ) h' fun _ => k
/-- tests that say no to nothing -/
theorem j_and {a b : Bool} (h1 : J Γ (cX t kB) (.ok a) fun a => .rt (.d (.bool a)) Γ) (h2 : J Γ (cX u kB) (.ok b) fun a => .rt (.d (.bool a)) Γ) (k : J Γ (K (a && b)) m po) : J Γ (cX (tAnd t u) K) m po := by
  have h : J Γ (cX (tAnd t u) kB) (.ok (a && b)) fun a => .rt (.d (.bool a)) Γ := by
    refine J.eq (C' := cX t fun b => match b with
      | true => cX u kB
      | false => kB false) ?_ (funext fun e => ?_)
    · have := j_sub (K := fun b => match b with
        | true => cX u kB
        | false => kB false) h1 (mk := fun a => .ok (a && b)) (po := fun a => .rt (.d (.bool a)) Γ) (bv := fun a => a) (Γ1 := fun _ => Γ) fun a => by
          cases a with
          | true => exact h2
          | false => exact fun e he => ⟨_, rfl, _, _, rfl, rfl, he⟩
      exact this
    · show bndS (bnd (t e) fun b e1 => match b with
        | true => u e1
        | false => some (.ok false e1)) kB = _
      rw [bndS_bnd]
      refine congrArg _ (funext fun a => funext fun e1 => ?_)
      cases a <;> rfl
  exact j_subB h k
theorem j_or {a b : Bool} (h1 : J Γ (cX t kB) (.ok a) fun a => .rt (.d (.bool a)) Γ) (h2 : J Γ (cX u kB) (.ok b) fun a => .rt (.d (.bool a)) Γ) (k : J Γ (K (a || b)) m po) : J Γ (cX (tOr t u) K) m po := by
  have h : J Γ (cX (tOr t u) kB) (.ok (a || b)) fun a => .rt (.d (.bool a)) Γ := by
    refine J.eq (C' := cX t fun b => match b with
      | true => kB true
      | false => cX u kB) ?_ (funext fun e => ?_)
    · have := j_sub (K := fun b => match b with
        | true => kB true
        | false => cX u kB) h1 (mk := fun a => .ok (a || b)) (po := fun a => .rt (.d (.bool a)) Γ) (bv := fun a => a) (Γ1 := fun _ => Γ) fun a => by
          cases a with
          | false => exact h2
          | true => exact fun e he => ⟨_, rfl, _, _, rfl, rfl, he⟩
      exact this
    · show bndS (bnd (t e) fun b e1 => match b with
        | true => some (.ok true e1)
        | false => u e1) kB = _
      rw [bndS_bnd]
      refine congrArg _ (funext fun a => funext fun e1 => ?_)
      cases a <;> rfl
  exact j_subB h k
theorem j_orC (k : J Γ (cX t fun b => match b with
      | true => K true
      | false => cX u K) m po) : J Γ (cX (tOr t u) K) m po := k.eq (funext fun e => by
  show bndS (bnd (t e) fun b e1 => match b with
      | true => some (.ok true e1)
      | false => u e1) K = _
  rw [bndS_bnd]
  refine congrArg _ (funext fun a => funext fun e1 => ?_)
  cases a <;> rfl)
/-- two ways -/
theorem j_ite {a : Bool} {A B : KC} {m1 m2 : R α} (h1 : J Γ A m1 po) (h2 : J Γ B m2 po) : J Γ (match a with
      | true => A
      | false => B) (if a = true then m1 else m2) po := by
  cases a with
  | true => exact h1
  | false => exact h2
end
/-- and, or, not as values -/
theorem j_notV (k : J Γ (cX fa fun o => cBool o fun b => K (.b (.fr (.bool (!b))))) m po) : J Γ (cX (fNotV fa) K) m po := k.eq (funext fun e => by
  show bndS (bnd (fa e) fun o e1 => match res e1 o with
    | some (.bool b) => okD (.bool (!b)) e1
    | _ => none) K = _
  rw [bndS_bnd]
  refine congrArg _ (funext fun a => funext fun e1 => ?_)
  unfold cBool
  split <;> rfl)
end TM
set_option maxRecDepth 100000
namespace TM
open PySem L2 VL PySem.W PySem.SeqAt
variable {Γ Γ' Γ1 Γ2 : Ctx} {α β σ τ : Type} {m : R α} {po : α → PO} {K : O → KC} {C : KC} {o o1 o2 o3 : O} {x y xv : PyData} {b z : B} {i j n : Nat} {f fa fb fc fx fv : FE} {rest : FS} {op : PyData → PyData → Option B} {fd : FD} {fo fl fh : FO} {r : FA} {F : Fn} {mi : List (Nat × Nat)}
section
variable {K : List O → KC}
theorem j_anil (k : J Γ (K []) m po) : J Γ (cX aNil K) m po := k
theorem j_acons (k : J Γ (cX f fun o => cX r fun os => K (o :: os)) m po) : J Γ (cX (aCons f r) K) m po := k.eq (funext fun e => by
  show bndS (bnd (f e) fun o e1 => bnd (r e1) fun os e2 => some (Out.ok (o :: os) e2)) K = _
  rw [bndS_bnd]
  refine congrArg _ (funext fun a => funext fun e1 => ?_)
  rw [bndS_bnd]
  rfl)
theorem j_aF (k : J Γ (cX f fun o => cFzB o fun b => cX r fun os => K (.b b :: os)) m po) : J Γ (cX (aF f r) K) m po := k.eq (funext fun e => by
  show bndS (bnd (f e) fun o e1 => (fzB e1 o).bind fun p => bnd (r p.2) fun os e2 => some (Out.ok (.b p.1 :: os) e2)) K = _
  rw [bndS_bnd]
  refine congrArg _ (funext fun a => funext fun e1 => ?_)
  rw [bndS_ob]
  refine congrArg _ (funext fun p => ?_)
  rw [bndS_bnd]
  rfl)
theorem j_aM {s : Sl} (h : Γ[i]? = some (some s)) (k : J Γ (cX r fun os => K (.s i :: os)) m po) : J Γ (cX (aM i r) K) m po := k.to fun e he => ⟨e, he, by
  have : ∃ b, at? e i = some b := by
    have h1 := he.hold i _ h
    cases q : at? e i with
    | some b => exact ⟨b, rfl⟩
    | none => rw [q] at h1; cases s <;> cases h1
  obtain ⟨b, hb⟩ := this
  show bndS (match at? e i with
    | some _ => bnd (r e) fun os e2 => some (Out.ok (.s i :: os) e2)
    | none => none) K = _
  rw [hb]
  dsimp only
  rw [bndS_bnd]
  rfl⟩
def cAP (o : O) (r : FA) (K : List O → KC) : KC := fun e => match o with
  | .s i => bndS (r e) fun os => K (.s i :: os)
  | .b _ => (fzB e o).bind fun p => bndS (r p.2) fun os => K (.b p.1 :: os)
theorem j_aP (k : J Γ (cX f fun o => cAP o r K) m po) : J Γ (cX (aP f r) K) m po := k.eq (funext fun e => by
  show bndS (bnd (f e) fun o e1 => match o with
    | .s i => bnd (r e1) fun os e2 => some (Out.ok (.s i :: os) e2)
    | .b _ => (fzB e1 o).bind fun p => bnd (r p.2) fun os e2 => some (Out.ok (.b p.1 :: os) e2)) K = _
  rw [bndS_bnd]
  refine congrArg _ (funext fun a => funext fun e1 => ?_)
  cases a with
  | s i =>
    show bndS (bnd (r e1) _) K = _
    rw [bndS_bnd]
    rfl
  | b b =>
    show bndS ((fzB e1 (.b b)).bind _) K = ((fzB e1 (.b b)).bind _)
    rw [bndS_ob]
    refine congrArg _ (funext fun p => ?_)
    rw [bndS_bnd]
    rfl)
theorem j_aPs (k : J Γ (cX r fun os => K (.s i :: os)) m po) : J Γ (cAP (.s i) r K) m po := k
theorem j_aPb (k : J Γ (cX r fun os => K (.b (.fr x) :: os)) m po) : J Γ (cAP (.b (.fr x)) r K) m po := k
end
/-- operands are read as xs -/
def RdA (Γ : Ctx) (os : List O) (xs : List PyData) : Prop := ∀ e, Cov Γ e → resAll e os = some xs
theorem ra_nil : RdA Γ [] [] := fun _ _ => rfl
theorem ra_cons {os : List O} {xs : List PyData} (h : Rd Γ o x) (t : RdA Γ os xs) : RdA Γ (o :: os) (x :: xs) := fun e he => by
  show (res e o).bind _ = _
  rw [h e he, Option.bind_some, t e he]
  rfl
def cCB (g : List PyData → Option B) (os : List O) (K : O → KC) : KC := fun e => (resAll e os).bind fun ds => (g ds).bind fun z => K (.b z) e
theorem j_cb {g : List PyData → Option B} (k : J Γ (cX r fun os => cCB g os K) m po) : J Γ (cX (fCB g r) K) m po := k.eq (funext fun e => by
  show bndS (bnd (r e) fun os e1 => (resAll e1 os).bind fun ds => (g ds).bind fun z => some (Out.ok (O.b z) e1)) K = _
  rw [bndS_bnd]
  refine congrArg _ (funext fun a => funext fun e1 => ?_)
  rw [bndS_ob]
  refine congrArg _ (funext fun _ => ?_)
  rw [bndS_ob]
  rfl)
theorem j_cbop {g : List PyData → Option B} {os : List O} {xs : List PyData} (h1 : RdA Γ os xs) (h3 : g xs = some z) (k : J Γ (K (.b z)) m po) : J Γ (cCB g os K) m po := k.to fun e he => ⟨e, he, by
  show (resAll e os).bind _ = _
  rw [h1 e he, Option.bind_some, h3]
  rfl⟩
def cIsi (T : Ty) (o : O) (K : O → KC) : KC := fun e => (res e o).bind fun d => K (.b (.fr (.bool (isD T d)))) e
theorem j_isi {T : Ty} (k : J Γ (cX fa fun o => cIsi T o K) m po) : J Γ (cX (fIsi T fa) K) m po := k.eq (funext fun e => by
  show bndS (bnd (fa e) fun o e1 => (res e1 o).bind fun d => okD (.bool (isD T d)) e1) K = _
  rw [bndS_bnd]
  refine congrArg _ (funext fun a => funext fun e1 => ?_)
  rw [bndS_ob]
  rfl)
theorem j_isi2 {T : Ty} {b : Bool} (h1 : Rd Γ o x) (h2 : isD T x = b) (k : J Γ (K (.b (.fr (.bool b)))) m po) : J Γ (cIsi T o K) m po := k.to fun e he => ⟨e, he, by
  show (res e o).bind _ = _
  rw [h1 e he, ← h2]
  rfl⟩
def kO : O → KC := fun o e => match res e o with
  | some d => some (.rt (.fr d) e)
  | none => none
theorem j_ko {l : List Nat} (h1 : Rd Γ o x) {a : α} (hp : po a = .rt (.d x) Γ') (h : restr l Γ = Γ') : J Γ (kO o) (.ok a) po := fun e he => ⟨.rt (.fr x) e, by
  unfold kO
  rw [h1 e he], by
  rw [hp]
  exact ⟨_, _, rfl, rfl, he.of h⟩⟩
def cCh (g h : PyData → PyData → Option B) (o1 o2 : O) (fc : FE) (K : O → KC) : KC := fun e2 => (res e2 o1).bind fun x => (res e2 o2).bind fun y => match g x y with
    | some (.fr (.bool true)) => bndS (fc e2) fun o3 e3 => (res e3 o2).bind fun y' => (res e3 o3).bind fun z => (h y' z).bind fun r => K (.b r) e3
    | some (.fr (.bool false)) => K (.b (.fr (.bool false))) e2
    | _ => none
theorem j_chain {g h : PyData → PyData → Option B} (k : J Γ (cX fa fun o1 => cX fb fun o2 => cCh g h o1 o2 fc K) m po) : J Γ (cX (fChain g h fa fb fc) K) m po := k.eq (funext fun e => by
  show bndS (bnd (fa e) fun o1 e1 => bnd (fb e1) fun o2 e2 => (res e2 o1).bind fun x => (res e2 o2).bind fun y => match g x y with
    | some (.fr (.bool true)) => bnd (fc e2) fun o3 e3 => (res e3 o2).bind fun y' => (res e3 o3).bind fun z => (h y' z).bind fun r => some (Out.ok (O.b r) e3)
    | some (.fr (.bool false)) => some (Out.ok (O.b (.fr (.bool false))) e2)
    | _ => none) K = _
  rw [bndS_bnd]
  refine congrArg _ (funext fun o1 => funext fun e1 => ?_)
  rw [bndS_bnd]
  refine congrArg _ (funext fun o2 => funext fun e2 => ?_)
  rw [bndS_ob]
  unfold cCh
  refine congrArg _ (funext fun x => ?_)
  rw [bndS_ob]
  refine congrArg _ (funext fun y => ?_)
  cases q : g x y with
  | none => rfl
  | some b =>
    cases b with
    | fr d =>
      cases d with
      | bool b =>
        cases b with
        | true =>
          dsimp only
          rw [bndS_bnd]
          refine congrArg _ (funext fun o3 => funext fun e3 => ?_)
          rw [bndS_ob]
          refine congrArg _ (funext fun x => ?_)
          rw [bndS_ob]
          refine congrArg _ (funext fun x => ?_)
          rw [bndS_ob]
          rfl
        | false => rfl
      | _ => rfl
    | _ => rfl)
theorem j_chain2 {g h : PyData → PyData → Option B} {b1 b2 : Bool} (h1 : Rd Γ o1 x) (h2 : Rd Γ o2 y) (hg : g x y = some (.fr (.bool b1))) (hc : J Γ (cX fc kO) (.ok ()) fun _ => .rt (.d xv) Γ) (hh : h y xv = some (.fr (.bool b2))) (k : J Γ (K (.b (.fr (.bool (b1 && b2))))) m po) : J Γ (cCh g h o1 o2 fc K) m po := fun e he => by
  obtain ⟨w, q1, b, e', rfl, q2, q3⟩ := hc e he
  have q4 : ∃ o3, fc e = some (.ok o3 e') ∧ res e' o3 = some xv := by
    have q1' : bndS (fc e) kO = some (.rt b e') := q1
    cases q : fc e with
    | none => rw [q] at q1'; cases q1'
    | some r =>
      rw [q] at q1'
      cases r with
      | ex c e1 => cases q1'
      | ok o3 e1 =>
        have q5 : kO o3 e1 = some (.rt b e') := q1'
        unfold kO at q5
        split at q5
        · rename_i d qd
          cases q5
          cases q2
          exact ⟨o3, rfl, qd⟩
        · cases q5
  obtain ⟨o3, q5, q6⟩ := q4
  unfold cCh
  rw [h1 e he, Option.bind_some, h2 e he, Option.bind_some, hg]
  cases b1 with
  | false => exact k e he
  | true =>
    dsimp only
    rw [q5]
    have hC : (bndS (some (Out.ok o3 e')) fun o3 e3 => (res e3 o2).bind fun y' => (res e3 o3).bind fun z => (h y' z).bind fun r => K (.b r) e3) = K (.b (.fr (.bool (true && b2)))) e' := by
      show ((res e' o2).bind fun y' => (res e' o3).bind fun z => (h y' z).bind fun r => K (.b r) e') = _
      rw [h2 e' q3, Option.bind_some, q6, Option.bind_some, hh]
      rfl
    have q7 := k e' q3
    rw [← hC] at q7
    exact q7
section
variable {K : Option Int → KC}
theorem j_ono (k : J Γ (K none) m po) : J Γ (cX oNo K) m po := k
def cInt (o : O) (K : Int → KC) : KC := fun e => match res e o with
  | some (.int i) => K i e
  | _ => none
theorem j_osome (k : J Γ (cX f fun o => cInt o fun i => K (some i)) m po) : J Γ (cX (oSome f) K) m po := k.eq (funext fun e => by
  show bndS (bnd (f e) fun o e1 => match res e1 o with
    | some (.int i) => some (Out.ok (some i) e1)
    | _ => none) K = _
  rw [bndS_bnd]
  refine congrArg _ (funext fun a => funext fun e1 => ?_)
  unfold cInt
  split <;> rfl)
theorem j_int {i : Int} {K : Int → KC} (h : Rd Γ o (.int i)) (k : J Γ (K i) m po) : J Γ (cInt o K) m po := k.to fun e he => ⟨e, he, by
  unfold cInt
  rw [h e he]⟩
end
def cSl (o : O) (l h : Option Int) (K : O → KC) : KC := fun e => (res e o).bind fun x => (oSl x l h).bind fun z => K (.b z) e
theorem j_sl (k : J Γ (cX fa fun o => cX fl fun l => cX fh fun h => cSl o l h K) m po) : J Γ (cX (fSl fa fl fh) K) m po := k.eq (funext fun e => by
  show bndS (bnd (fa e) fun o e1 => bnd (fl e1) fun l e2 => bnd (fh e2) fun h e3 => (res e3 o).bind fun x => (oSl x l h).bind fun z => some (Out.ok (O.b z) e3)) K = _
  rw [bndS_bnd]
  refine congrArg _ (funext fun _ => funext fun _ => ?_)
  rw [bndS_bnd]
  refine congrArg _ (funext fun _ => funext fun _ => ?_)
  rw [bndS_bnd]
  refine congrArg _ (funext fun _ => funext fun _ => ?_)
  rw [bndS_ob]
  refine congrArg _ (funext fun _ => ?_)
  rw [bndS_ob]
  rfl)
theorem j_slop {l h : Option Int} (h1 : Rd Γ o x) (h3 : oSl x l h = some z) (k : J Γ (K (.b z)) m po) : J Γ (cSl o l h K) m po := k.to fun e he => ⟨e, he, by
  show (res e o).bind _ = _
  rw [h1 e he, Option.bind_some, h3]
  rfl⟩
def cLr1 (o : O) (K : O → KC) : KC := fun e => match res e o with
  | some (.int j) => if rgOk 0 j = true then K (.b (.ow (rngN 0 j.toNat))) e else none
  | _ => none
theorem j_lr1 (k : J Γ (cX fa fun o => cLr1 o K) m po) : J Γ (cX (fListRg1 fa) K) m po := k.eq (funext fun e => by
  show bndS (bnd (fa e) fun o e1 => match res e1 o with
    | some (.int j) => if rgOk 0 j = true then some (Out.ok (O.b (.ow (rngN 0 j.toNat))) e1) else none
    | _ => none) K = _
  rw [bndS_bnd]
  refine congrArg _ (funext fun a => funext fun e1 => ?_)
  unfold cLr1
  split
  · split <;> rfl
  · rfl)
/-- lo, lo + 1, .. -/
def rngL (lo : Int) (n : Nat) : List Int := (List.range n).map fun (i : Nat) => lo + (i : Int)
theorem rngN_L (lo : Int) (n : Nat) : rngN lo n = (rngL lo n).map Datum.toD := by
  unfold rngN rngL
  rw [List.map_map]
  rfl
def lrg1 (j : Int) : Option (List Int) := if rgOk 0 j = true then some (rngL 0 j.toNat) else none
theorem j_lr1op {i : Int} {mk : List Int → R α} (h1 : Rd Γ o (.int i)) (k : ∀ a, J Γ (K (.b (bow (Datum.toD a)))) (mk a) po) : J Γ (cLr1 o K) (ob (lrg1 i) mk) po := j_ob fun a ha => (k a).to fun e he => ⟨e, he, by
  unfold cLr1
  unfold lrg1 at ha
  rw [h1 e he]
  dsimp only
  split at ha
  · rename_i q
    cases ha
    rw [if_pos q, rngN_L]
    rfl
  · cases ha⟩
def cScSl (o : O) (l h : Option Int) (K : O → KC) : KC := fun e => match bOf e o with
  | some (.sc ns) => K (.b (.ow ((cutD ns l h).map .int))) e
  | _ => none
theorem j_scSl (k : J Γ (cX fa fun o => cX fl fun l => cX fh fun h => cScSl o l h K) m po) : J Γ (cX (fScSl fa fl fh) K) m po := k.eq (funext fun e => by
  show bndS (bnd (fa e) fun o e1 => bnd (fl e1) fun l e2 => bnd (fh e2) fun h e3 => match bOf e3 o with
    | some (.sc ns) => some (Out.ok (O.b (.ow ((cutD ns l h).map .int))) e3)
    | _ => none) K = _
  rw [bndS_bnd]
  refine congrArg _ (funext fun _ => funext fun _ => ?_)
  rw [bndS_bnd]
  refine congrArg _ (funext fun _ => funext fun _ => ?_)
  rw [bndS_bnd]
  refine congrArg _ (funext fun _ => funext fun _ => ?_)
  unfold cScSl
  split <;> rfl)
theorem j_scSl2 {ns : List Int} {l h : Option Int} (h0 : Γ[i]? = some (some (.sc ns))) (k : J Γ (K (.b (bow (Datum.toD (cutD ns l h))))) m po) : J Γ (cScSl (.s i) l h K) m po := k.to fun e he => ⟨e, he, by
  have h1 : bOf e (.s i) = some (.sc ns) := he.hold i _ h0
  unfold cScSl
  rw [h1]
  rfl⟩
def cChk (i : Nat) (C : KC) : KC := fun e => match at? e i with
  | some (.ow _) => C e
  | _ => none
def isL : PyData → Bool
  | .list _ => true
  | _ => false
theorem bow_l {x : PyData} (h : isL x = true) : ∃ ds, x = .list ds ∧ bow x = .ow ds := by
  cases x with
  | list ds => exact ⟨ds, rfl, rfl⟩
  | _ => cases h
theorem j_chk (h : Γ[i]? = some (some (.o x))) (hl : isL x = true) (k : J Γ C m po) : J Γ (cChk i C) m po := k.to fun e he => ⟨e, he, by
  obtain ⟨ds, rfl, hb⟩ := bow_l hl
  unfold cChk
  rw [he.own h, hb]⟩
def cMth (i : Nat) (g : List PyData → List PyData → Option (B × List PyData)) (as : List PyData) (K : O → KC) : KC := fun e => match at? e i with
  | some (.ow ds) => (g ds as).bind fun p => K (.b p.1) (e.set i (some (.ow p.2)))
  | _ => none
theorem j_mth {g : List PyData → List PyData → Option (B × List PyData)} (k : J Γ (cChk i (cX fd fun as => cMth i g as K)) m po) : J Γ (cX (fMth i g fd) K) m po := k.eq (funext fun e => by
  show bndS (match at? e i with
    | some (.ow _) => bnd (fd e) fun as e1 => match at? e1 i with
      | some (.ow ds) => (g ds as).bind fun p => some (Out.ok (.b p.1) (e1.set i (some (.ow p.2))))
      | _ => none
    | _ => none) K = _
  unfold cChk
  split
  · rw [bndS_bnd]
    refine congrArg _ (funext fun a => funext fun e1 => ?_)
    unfold cMth
    split
    · rw [bndS_ob]
      rfl
    · rfl
  · rfl)
theorem j_mthop {g : List PyData → List PyData → Option (B × List PyData)} {as ds es : List PyData} {y : PyData} (h : Γ[i]? = some (some (.o (.list ds)))) (hg : g ds as = some (z, es)) (hy : PyData.list es = y) (k : J (Γ.set i (some (.o y))) (K (.b z)) m po) : J Γ (cMth i g as K) m po := k.to fun e he => ⟨e.set i (some (.ow es)), by
  have := he.set (i := i) (s := .o y) (b := some (.ow es)) (by rw [← hy]; rfl)
  exact this, by
  unfold cMth
  rw [he.own h]
  show ((g ds as).bind fun p => K (.b p.1) (e.set i (some (.ow p.2)))) = _
  rw [hg]
  rfl⟩
theorem j_mthopR {g : List PyData → List PyData → Option (B × List PyData)} {as ds : List PyData} {r : Option β} {z : β → B} {es : β → List PyData} {y : β → PyData} {mk : β → R α} (h : Γ[i]? = some (some (.o (.list ds)))) (hg : ∀ a, r = some a → g ds as = some (z a, es a)) (hy : ∀ a, PyData.list (es a) = y a) (k : ∀ a, J (Γ.set i (some (.o (y a)))) (K (.b (z a))) (mk a) po) : J Γ (cMth i g as K) (ob r mk) po := j_ob fun a ha => j_mthop h (hg a ha) (hy a) (k a)
/-- what a def tells, by its mirror -/
def FnS (F : Fn) (bs : List B) (m : R α) (rv : α → Sl) (ch : α → List (Nat × Sl)) : Prop := match m with
  | .no => True
  | .ok a => ∃ b e, F bs = some (.ret b e) ∧ (rv a).ok (some b) ∧ ∀ p ∈ ch a, p.2.ok (at? e p.1)
  | .ex c => ∃ e, F bs = some (.ex c e)
inductive All2 {A B : Type} (r : A → B → Prop) : List A → List B → Prop where
  | nil : All2 r [] []
  | cons {a : A} {b : B} {as : List A} {bs : List B} : r a b → All2 r as bs → All2 r (a :: as) (b :: bs)
theorem All2.length_eq {A B : Type} {r : A → B → Prop} {as : List A} {bs : List B} (h : All2 r as bs) : as.length = bs.length := by
  induction h with
  | nil => rfl
  | cons _ _ ih => rw [List.length_cons, List.length_cons, ih]
theorem cov_args {bs : List B} {ss : List Sl} (n : Nat) (h : All2 (fun (s : Sl) b => s.ok (some b)) ss bs) : Cov (ss.map some ++ List.replicate n none) (bs.map some ++ List.replicate n none) := by
  refine ⟨?_, fun i s hi => ?_⟩
  · have := h.length_eq
    rw [List.length_append, List.length_append, List.length_map, List.length_map, List.length_replicate, List.length_replicate, this]
  · induction h generalizing i with
    | nil =>
      rw [List.map_nil, List.nil_append, List.getElem?_replicate] at hi
      split at hi <;> cases hi
    | cons h1 h2 ih =>
      cases i with
      | zero => cases hi; exact h1
      | succ i => exact ih i hi
theorem fn_mk {bs : List B} {ss : List Sl} {g : FS} {N : Nat} {rv : α → Sl} {ch : α → List (Nat × Sl)} {Γe : α → Ctx} (hN : N - bs.length = n) (hs : All2 (fun (s : Sl) b => s.ok (some b)) ss bs) (hΓ : ss.map some ++ List.replicate n none = Γ) (h : J Γ g m fun a => .rt (rv a) (Γe a)) (hc : ∀ a, ∀ p ∈ ch a, (Γe a)[p.1]? = some (some p.2)) : FnS (runF g N) bs m rv ch := by
  have h1 := h _ (hΓ ▸ cov_args n hs)
  unfold FnS
  unfold runF
  rw [hN]
  cases m with
  | no => trivial
  | ex c =>
    obtain ⟨e, h2⟩ := h1
    rw [h2]
    exact ⟨e, rfl⟩
  | ok a =>
    obtain ⟨w, h2, b, e, rfl, h3, h4⟩ := h1
    rw [h2]
    exact ⟨b, e, rfl, h3, fun p hp => h4.hold _ _ (hc a p hp)⟩
/-- a def that tells None -/
theorem fn_mkN {bs : List B} {ss : List Sl} {g : FS} {N : Nat} {ch : α → List (Nat × Sl)} {Γe : α → Ctx} (hN : N - bs.length = n) (hs : All2 (fun (s : Sl) b => s.ok (some b)) ss bs) (hΓ : ss.map some ++ List.replicate n none = Γ) (h : J Γ g m fun a => .fn (Γe a)) (hc : ∀ a, ∀ p ∈ ch a, (Γe a)[p.1]? = some (some p.2)) : FnS (runF g N) bs m (fun _ => .d .none) ch := by
  have h1 := h _ (hΓ ▸ cov_args n hs)
  unfold FnS
  unfold runF
  rw [hN]
  cases m with
  | no => trivial
  | ex c =>
    obtain ⟨e, h2⟩ := h1
    rw [h2]
    exact ⟨e, rfl⟩
  | ok a =>
    obtain ⟨w, h2, e, h5, h4⟩ := h1
    rw [h2]
    rcases h5 with rfl | rfl
    · exact ⟨_, e, rfl, rfl, fun p hp => h4.hold _ _ (hc a p hp)⟩
    · exact ⟨_, e, rfl, rfl, fun p hp => h4.hold _ _ (hc a p hp)⟩
def cCall (F : Fn) (n : Nat) (mi : List (Nat × Nat)) (os : List O) (K : O → KC) : KC := fun e1 => if (slotsOk mi 0 os && miOk mi os && os.length == n) = true then (bindO e1 os).bind fun bs => match F bs with
  | none => none
  | some (.ret b e2) => K (.b b) (putBack e2 mi e1)
  | some (.ex c e2) => some (.ex c (putBack e2 mi e1)) else none
theorem j_call (k : J Γ (cX r fun os => cCall F n mi os K) m po) : J Γ (cX (fCall F n mi r) K) m po := k.eq (funext fun e => by
  show bndS (bnd (r e) fun os e1 => if (slotsOk mi 0 os && miOk mi os && os.length == n) = true then (bindO e1 os).bind fun bs => match F bs with
    | none => none
    | some (.ret b e2) => some (Out.ok (.b b) (putBack e2 mi e1))
    | some (.ex c e2) => some (Out.ex c (putBack e2 mi e1)) else none) K = _
  rw [bndS_bnd]
  refine congrArg _ (funext fun a => funext fun e1 => ?_)
  unfold cCall
  split
  · rw [bndS_ob]
    refine congrArg _ (funext fun bs => ?_)
    split <;> simp_all [bndS]
  · rfl)
/-- operands handed in -/
def BdA (Γ : Ctx) (os : List O) (bs : List B) : Prop := ∀ e, Cov Γ e → bindO e os = some bs
theorem ba_nil : BdA Γ [] [] := fun _ _ => rfl
theorem ba_b {os : List O} {bs : List B} (t : BdA Γ os bs) : BdA Γ (.b b :: os) (b :: bs) := fun e he => by
  show (bindO e os).bind _ = _
  rw [t e he]
  rfl
theorem ba_o {os : List O} {bs : List B} (h : Γ[i]? = some (some (.o x))) (t : BdA Γ os bs) : BdA Γ (.s i :: os) (bow x :: bs) := fun e he => by
  show (at? e i).bind _ = _
  rw [he.own h, Option.bind_some, t e he]
  rfl
theorem ba_rs {os : List O} {bs : List B} {k : Nat} (h : Γ[i]? = some (some (.rs k x))) (t : BdA Γ os bs) : BdA Γ (.s i :: os) (.rs k x :: bs) := fun e he => by
  have : at? e i = some (.rs k x) := he.hold i _ h
  show (at? e i).bind _ = _
  rw [this, Option.bind_some, t e he]
  rfl
/-- the context behind a call -/
def back (mi : List (Nat × Nat)) (ch : List (Nat × Sl)) (Γ : Ctx) : Ctx := mi.foldl (fun Γ p => Γ.set p.2 ((ch.find? fun q => q.1 == p.1).map (·.2))) Γ
theorem Cov.back {ch : List (Nat × Sl)} {e2 : VL.Env} (hc : ∀ p ∈ ch, p.2.ok (at? e2 p.1)) : ∀ (mi : List (Nat × Nat)) {Γ : Ctx} {e : VL.Env}, Cov Γ e → Cov (back mi ch Γ) (putBack e2 mi e)
  | [], _, _, h => h
  | (j, i) :: mi, Γ, e, h => by
    show Cov (TM.back mi ch (Γ.set i ((ch.find? fun q => q.1 == j).map (·.2)))) (putBack e2 mi (e.set i (at? e2 j)))
    refine Cov.back hc mi ?_
    cases q : ch.find? fun q => q.1 == j with
    | none => exact h.drop i _
    | some p =>
      have h1 := List.find?_some q
      have h2 := hc p (List.mem_of_find?_eq_some q)
      rw [beq_iff_eq] at h1
      rw [h1] at h2
      exact h.set h2
theorem j_callG {os : List O} {bs : List B} {m1 : R β} {rv : β → Sl} {ch : β → List (Nat × Sl)} {mk : β → R α} (h0 : (slotsOk mi 0 os && miOk mi os && os.length == n) = true) (h1 : BdA Γ os bs) (hF : FnS F bs m1 rv ch) (k : ∀ a b, (rv a).ok (some b) → J (TM.back mi (ch a) Γ) (K (.b b)) (mk a) po) : J Γ (cCall F n mi os K) (m1.bind mk) po := fun e he => by
  have hC : cCall F n mi os K e = match F bs with
    | none => none
    | some (.ret b e2) => K (.b b) (putBack e2 mi e)
    | some (.ex c e2) => some (.ex c (putBack e2 mi e)) := by
    unfold cCall
    rw [if_pos h0, h1 e he]
    rfl
  rw [hC]
  unfold FnS at hF
  cases m1 with
  | no => trivial
  | ex c =>
    obtain ⟨e2, q⟩ := hF
    rw [q]
    exact ⟨_, rfl⟩
  | ok a =>
    obtain ⟨b, e2, q, q2, q3⟩ := hF
    rw [q]
    exact k a b q2 _ (he.back q3 mi)
/-- not a list, not a dict -/
def solid : PyData → Bool
  | .list _ => false
  | .dict _ => false
  | _ => true
theorem solid_fr {b : B} (h : b.dat = some x) (hs : solid x = true) : b = .fr x := by
  cases b with
  | fr d => cases h; rfl
  | ow ds => cases h; cases hs
  | od ds => cases h; cases hs
  | ex c => cases h
  | rs k d => cases h
  | tr t => cases h
  | sc ns => cases h
/-- an answer that is no list; one that is new; any -/
theorem j_callF {os : List O} {bs : List B} {m1 : R β} {xr : β → PyData} {ch : β → List (Nat × Sl)} {mk : β → R α} {Γb : β → Ctx} (h0 : (slotsOk mi 0 os && miOk mi os && os.length == n) = true) (h1 : BdA Γ os bs) (hF : FnS F bs m1 (fun a => .d (xr a)) ch) (hs : ∀ a, solid (xr a) = true) (hb : ∀ a, TM.back mi (ch a) Γ = Γb a) (k : ∀ a, J (Γb a) (K (.b (.fr (xr a)))) (mk a) po) : J Γ (cCall F n mi os K) (m1.bind mk) po :=
  j_callG h0 h1 hF fun a b h => by
    have := solid_fr (b := b) h (hs a)
    subst this
    rw [hb]
    exact k a
theorem j_callO {os : List O} {bs : List B} {m1 : R β} {xr : β → PyData} {ch : β → List (Nat × Sl)} {mk : β → R α} {Γb : β → Ctx} (h0 : (slotsOk mi 0 os && miOk mi os && os.length == n) = true) (h1 : BdA Γ os bs) (hF : FnS F bs m1 (fun a => .o (xr a)) ch) (hb : ∀ a, TM.back mi (ch a) Γ = Γb a) (k : ∀ a, J (Γb a) (K (.b (bow (xr a)))) (mk a) po) : J Γ (cCall F n mi os K) (m1.bind mk) po :=
  j_callG h0 h1 hF fun a b h => by
    have h' : some b = some (bow (xr a)) := h
    cases h'
    rw [hb]
    exact k a
theorem j_callD {os : List O} {bs : List B} {m1 : R β} {xr : β → PyData} {ch : β → List (Nat × Sl)} {mk : β → R α} {Γb : β → Ctx} (h0 : (slotsOk mi 0 os && miOk mi os && os.length == n) = true) (h1 : BdA Γ os bs) (hF : FnS F bs m1 (fun a => .d (xr a)) ch) (hb : ∀ a, TM.back mi (ch a) Γ = Γb a) (k : ∀ a b, b.dat = some (xr a) → J (Γb a) (K (.b b)) (mk a) po) : J Γ (cCall F n mi os K) (m1.bind mk) po :=
  j_callG h0 h1 hF fun a b h => by
    rw [hb]
    exact k a b h
theorem fz_any (h : b.dat = some x) : Fz Γ (.b b) x Γ := fun e he => by
  refine ⟨e, ?_, he⟩
  cases b with
  | fr d => cases h; rfl
  | ow ds => cases h; rfl
  | od ds => cases h; rfl
  | ex c => cases h
  | rs k d => cases h
  | tr t => cases h
  | sc ns => cases h
def cCallP (F : Fn) (n : Nat) (os : List O) (K : O → KC) : KC := fun e1 => if flatO os = true then (lendO e1 os).bind fun bs => if bs.length = n then match F bs with
  | some (.ret (.fr d) _) => if isFlat d = true then K (.b (.fr d)) e1 else none
  | some (.ex c _) => some (.ex c e1)
  | _ => none else none else none
theorem j_callP (k : J Γ (cX r fun os => cCallP F n os K) m po) : J Γ (cX (fCallP F n r) K) m po := k.eq (funext fun e => by
  show bndS (bnd (r e) fun os e1 => if flatO os = true then (lendO e1 os).bind fun bs => if bs.length = n then match F bs with
    | some (.ret (.fr d) _) => if isFlat d = true then okD d e1 else none
    | some (.ex c _) => some (Out.ex c e1)
    | _ => none else none else none) K = _
  rw [bndS_bnd]
  refine congrArg _ (funext fun a => funext fun e1 => ?_)
  unfold cCallP
  split
  · rw [bndS_ob]
    refine congrArg _ (funext fun bs => ?_)
    split
    · cases F bs with
      | none => rfl
      | some q =>
        cases q with
        | ex c e => rfl
        | ret b e =>
          cases b with
          | fr d =>
            dsimp only
            split <;> rfl
          | _ => rfl
    · rfl
  · rfl)
/-- operands lent -/
def LdA (Γ : Ctx) (os : List O) (bs : List B) : Prop := ∀ e, Cov Γ e → lendO e os = some bs
theorem la_nil : LdA Γ [] [] := fun _ _ => rfl
theorem la_b {os : List O} {bs : List B} (t : LdA Γ os bs) : LdA Γ (.b b :: os) (b :: bs) := fun e he => by
  show (lendO e os).bind _ = _
  rw [t e he]
  rfl
theorem lent_dat {b : B} (h : b.dat = some x) : lent b = some (.fr x) := by
  cases b with
  | fr d => cases h; rfl
  | ow ds => cases h; rfl
  | od ds => cases h; rfl
  | ex c => cases h
  | rs k d => cases h
  | tr t => cases h
  | sc ns => cases h
theorem la_d {os : List O} {bs : List B} (h : Γ[i]? = some (some (.d x))) (t : LdA Γ os bs) : LdA Γ (.s i :: os) (.fr x :: bs) := fun e he => by
  have h1 : (at? e i).bind B.dat = some x := he.hold i _ h
  show ((at? e i).bind lent).bind _ = _
  cases q : at? e i with
  | none => rw [q] at h1; cases h1
  | some b =>
    rw [q] at h1
    rw [Option.bind_some, lent_dat h1, Option.bind_some, t e he]
    rfl
theorem j_callPop {os : List O} {bs : List B} {m1 : R β} {xr : β → PyData} {ch : β → List (Nat × Sl)} {mk : β → R α} (h0 : flatO os = true) (h1 : LdA Γ os bs) (hn : bs.length = n) (hF : FnS F bs m1 (fun a => .d (xr a)) ch) (hs : ∀ a, isFlat (xr a) = true) (k : ∀ a, J Γ (K (.b (.fr (xr a)))) (mk a) po) : J Γ (cCallP F n os K) (m1.bind mk) po := fun e he => by
  have hC : cCallP F n os K e = match F bs with
    | some (.ret (.fr d) _) => if isFlat d = true then K (.b (.fr d)) e else none
    | some (.ex c _) => some (.ex c e)
    | _ => none := by
    unfold cCallP
    rw [if_pos h0, h1 e he, Option.bind_some, if_pos hn]
  rw [hC]
  unfold FnS at hF
  cases m1 with
  | no => trivial
  | ex c =>
    obtain ⟨e2, q⟩ := hF
    rw [q]
    exact ⟨_, rfl⟩
  | ok a =>
    obtain ⟨b, e2, q, q2, q3⟩ := hF
    have hsd : solid (xr a) = true := by
      have := hs a
      revert this
      cases xr a <;> simp [isFlat, solid]
    have := solid_fr (b := b) q2 hsd
    subst this
    rw [q]
    dsimp only
    rw [if_pos (hs a)]
    exact k a e he
end TM
set_option maxRecDepth 100000
namespace TM
open PySem L2 VL PySem.W PySem.SeqAt
variable {Γ Γ' Γ1 Γ2 : Ctx} {α β σ τ γ υ : Type} {m : R α} {po : α → PO} {K : O → KC} {C : KC} {o o1 o2 o3 : O} {x y : PyData} {b z : B} {i j n : Nat} {f fa fb fc fx fy fv : FE} {rest A : FS} {op : PyData → PyData → Option B} {fd : FD} {fi : FI} {t : FT} {l : List Nat} {a : α}
theorem seq_bndS {q : Option (Out β)} {k : β → VL.Env → Option SO} {rest : FS} : (match bndS q k with
  | some (.nx e1) => rest e1
  | r => r) = bndS q fun a e => match k a e with
    | some (.nx e1) => rest e1
    | r => r := by
  cases q with
  | none => rfl
  | some o => cases o <;> rfl
theorem seq_ob {q : Option β} {k : β → Option SO} {rest : FS} : (match q.bind k with
  | some (.nx e1) => rest e1
  | r => r) = q.bind fun a => match k a with
    | some (.nx e1) => rest e1
    | r => r := by cases q <;> rfl
def thn (q : Option SO) (rest : FS) : Option SO := match q with
  | some (.nx e1) => rest e1
  | r => r
theorem thn_bndS {q : Option (Out β)} {k : β → VL.Env → Option SO} : thn (bndS q k) rest = bndS q fun a e => thn (k a e) rest := by
  cases q with
  | none => rfl
  | some o => cases o <;> rfl
theorem thn_ob {q : Option β} {k : β → Option SO} : thn (q.bind k) rest = q.bind fun a => thn (k a) rest := by cases q <;> rfl
def cSet (i : Nat) (b : B) (rest : FS) : KC := fun e => rest (e.set i (some b))
theorem j_asg (k : J Γ (cX f fun o => cFzB o fun b => cSet i b rest) m po) : J Γ (sSeq (sAsg i f) rest) m po := k.eq (funext fun e => by
  show (match bndS (f e) fun o e1 => (fzB e1 o).bind fun p => some (SO.nx (p.2.set i (some p.1))) with
    | some (.nx e1) => rest e1
    | r => r) = _
  rw [seq_bndS]
  refine congrArg _ (funext fun a => funext fun e1 => ?_)
  rw [seq_ob]
  rfl)
theorem j_setD (k : J (Γ.set i (some (.d x))) rest m po) : J Γ (cSet i (.fr x) rest) m po := k.to fun e he => ⟨_, he.set (s := .d x) (b := some (.fr x)) rfl, rfl⟩
theorem j_setO (k : J (Γ.set i (some (.o x))) rest m po) : J Γ (cSet i (bow x) rest) m po := k.to fun e he => ⟨_, he.set (s := .o x) (b := some (bow x)) rfl, rfl⟩
def cOwn (i : Nat) (o : O) (rest : FS) : KC := fun e => match o with
  | .b b => rest (e.set i (some b))
  | .s _ => none
theorem j_own (k : J Γ (cX f fun o => cOwn i o rest) m po) : J Γ (sSeq (sOwn i f) rest) m po := k.eq (funext fun e => by
  show (match bndS (f e) fun o e1 => match o with
    | .b b => some (SO.nx (e1.set i (some b)))
    | .s _ => none with
    | some (.nx e1) => rest e1
    | r => r) = _
  rw [seq_bndS]
  refine congrArg _ (funext fun a => funext fun e1 => ?_)
  cases a <;> rfl)
theorem j_ownb (k : J Γ (cSet i b rest) m po) : J Γ (cOwn i (.b b) rest) m po := k
def cRet (o : O) : KC := fun e => match o with
  | .b b => some (.rt b e)
  | .s i => (at? e i).bind fun b => some (.rt b (e.set i none))
theorem j_ret (k : J Γ (cX f cRet) m po) : J Γ (sSeq (sRetO f) rest) m po := k.eq (funext fun e => by
  show (match bndS (f e) cRet with
    | some (.nx e1) => rest e1
    | r => r) = _
  rw [seq_bndS]
  refine congrArg _ (funext fun a => funext fun e1 => ?_)
  unfold cRet
  cases a with
  | b b => rfl
  | s i =>
    dsimp only
    rw [seq_ob])
theorem j_retb {s : Sl} (h : s.ok (some b)) (hr : restr l Γ = Γ') (hp : po a = .rt s Γ') : J Γ (cRet (.b b)) (.ok a) po := fun e he => ⟨_, rfl, by
  rw [hp]
  exact ⟨_, _, rfl, h, he.of hr⟩⟩
theorem sl_d : (Sl.d x).ok (some (.fr x)) := rfl
theorem sl_o : (Sl.o x).ok (some (bow x)) := rfl
theorem sl_id {s : Sl} {b : Option B} (h : s.ok b) : s.ok b := h
theorem j_rets {s s' : Sl} (h : Γ[i]? = some (some s')) (hs : ∀ b, s'.ok b → s.ok b) (hr : restr l (Γ.set i none) = Γ') (hp : po a = .rt s Γ') : J Γ (cRet (.s i)) (.ok a) po := fun e he => by
  have h1 := he.hold i _ h
  obtain ⟨b, hb⟩ : ∃ b, at? e i = some b := by
    cases q : at? e i with
    | some b => exact ⟨b, rfl⟩
    | none => rw [q] at h1; cases s' <;> cases h1
  refine ⟨.rt b (e.set i none), ?_, ?_⟩
  · show (at? e i).bind _ = _
    rw [hb]
    rfl
  · rw [hp]
    exact ⟨b, _, rfl, hs _ (hb ▸ h1), (he.drop i none).of hr⟩
theorem j_seqRaise {c : Str} : J Γ (sSeq (sRaise c) rest) (.ex c) po := fun e _ => ⟨e, rfl⟩
theorem j_nil (hr : restr l Γ = Γ') (hp : po a = .nx Γ') : J Γ sNil (.ok a) po := fun e he => ⟨_, rfl, by
  rw [hp]
  exact ⟨_, rfl, he.of hr⟩⟩
theorem j_nilF (hr : restr l Γ = Γ') (hp : po a = .fn Γ') : J Γ sNil (.ok a) po := fun e he => ⟨_, rfl, by
  rw [hp]
  exact ⟨_, .inl rfl, he.of hr⟩⟩
theorem seq_nil : sSeq A sNil = A := funext fun e => by
  show (match A e with
    | some (.nx e1) => some (SO.nx e1)
    | r => r) = _
  split
  · rename_i e1 q; rw [q]
  · rfl
theorem j_last (k : J Γ (sSeq A sNil) m po) : J Γ A m po := k.eq seq_nil.symm
theorem j_seqNil (k : J Γ rest m po) : J Γ (sSeq sNil rest) m po := k
theorem j_expr (k : J Γ (cX f fun _ => rest) m po) : J Γ (sSeq (sExpr f) rest) m po := k.eq (funext fun e => by
  show (match bndS (f e) fun _ e1 => some (SO.nx e1) with
    | some (.nx e1) => rest e1
    | r => r) = _
  rw [seq_bndS]
  rfl)
inductive Fl (σ γ : Type) where
  | nx (s : σ)
  | bk (s : σ)
  | rt (a : γ)
theorem j_seq {m1 : R σ} {Γs : σ → Ctx} {mk : σ → R α} (h : J Γ A m1 fun s => .nx (Γs s)) (k : ∀ s, J (Γs s) rest (mk s) po) : J Γ (sSeq A rest) (m1.bind mk) po := fun e he => by
  have h1 := h e he
  cases m1 with
  | no => trivial
  | ex c =>
    obtain ⟨e', h2⟩ := h1
    refine ⟨e', ?_⟩
    show (match A e with
      | some (.nx e1) => rest e1
      | r => r) = _
    rw [h2]
  | ok s =>
    obtain ⟨w, h2, e', rfl, h3⟩ := h1
    have h4 := k s e' h3
    have hC : sSeq A rest e = rest e' := by
      show (match A e with
        | some (.nx e1) => rest e1
        | r => r) = _
      rw [h2]
    rw [hC]
    exact h4
/-- a part that may end all -/
def poF (Γs : σ → Ctx) (po : α → PO) : Fl σ α → PO
  | .nx s => .nx (Γs s)
  | .bk s => .bk (Γs s)
  | .rt a => po a
def Fl.out (mk : σ → R α) : Fl σ α → R α
  | .nx s => mk s
  | .bk _ => .no
  | .rt a => .ok a
@[simp] theorem out_nx {mk : σ → R α} {s : σ} : Fl.out mk (.nx s : Fl σ α) = mk s := rfl
@[simp] theorem out_rt {mk : σ → R α} {a : α} : Fl.out mk (.rt a : Fl σ α) = .ok a := rfl
/-- an end that is no next -/
def PO.fin : PO → Bool
  | .nx _ => false
  | .fn _ => false
  | _ => true
theorem j_seqF {m1 : R (Fl σ α)} {Γs : σ → Ctx} {mk : σ → R α} (hf : ∀ a, (po a).fin = true) (h : J Γ A m1 (poF Γs po)) (k : ∀ s, J (Γs s) rest (mk s) po) : J Γ (sSeq A rest) (m1.bind (Fl.out mk)) po := fun e he => by
  have h1 := h e he
  cases m1 with
  | no => trivial
  | ex c =>
    obtain ⟨e', h2⟩ := h1
    refine ⟨e', ?_⟩
    show (match A e with
      | some (.nx e1) => rest e1
      | r => r) = _
    rw [h2]
  | ok r =>
    cases r with
    | bk s => trivial
    | nx s =>
      obtain ⟨w, h2, e', rfl, h3⟩ := h1
      have h4 := k s e' h3
      have hC : sSeq A rest e = rest e' := by
        show (match A e with
          | some (.nx e1) => rest e1
          | r => r) = _
        rw [h2]
      rw [hC]
      exact h4
    | rt a =>
      obtain ⟨w, h2, h3⟩ := h1
      have h3' : (po a).ok w := h3
      refine ⟨w, ?_, h3'⟩
      show (match A e with
        | some (.nx e1) => rest e1
        | r => r) = _
      rw [h2]
      have hfa := hf a
      revert h3' hfa
      cases po a with
      | nx Γ => intro _ h; cases h
      | fn Γ => intro _ h; cases h
      | bk Γ => rintro ⟨e', rfl, _⟩ _; rfl
      | rt s Γ => rintro ⟨b, e', rfl, _⟩ _; rfl
/-- in a loop's block: a part that may end the def -/
def Fl.outF (mk : σ → R (Fl β γ)) : Fl σ γ → R (Fl β γ)
  | .nx s => mk s
  | .bk _ => .no
  | .rt a => .ok (.rt a)
@[simp] theorem outF_nx {mk : σ → R (Fl β γ)} {s : σ} : Fl.outF mk (.nx s : Fl σ γ) = mk s := rfl
@[simp] theorem outF_rt {mk : σ → R (Fl β γ)} {a : γ} : Fl.outF mk (.rt a : Fl σ γ) = .ok (.rt a) := rfl
theorem j_seqFF {m1 : R (Fl σ γ)} {Γs : σ → Ctx} {Γt : β → Ctx} {pg : γ → PO} {mk : σ → R (Fl β γ)} (hf : ∀ a, (pg a).fin = true) (h : J Γ A m1 (poF Γs pg)) (k : ∀ s, J (Γs s) rest (mk s) (poF Γt pg)) : J Γ (sSeq A rest) (m1.bind (Fl.outF mk)) (poF Γt pg) := fun e he => by
  have h1 := h e he
  cases m1 with
  | no => trivial
  | ex c =>
    obtain ⟨e', h2⟩ := h1
    refine ⟨e', ?_⟩
    show (match A e with
      | some (.nx e1) => rest e1
      | r => r) = _
    rw [h2]
  | ok r =>
    cases r with
    | bk s => trivial
    | nx s =>
      obtain ⟨w, h2, e', rfl, h3⟩ := h1
      have h4 := k s e' h3
      have hC : sSeq A rest e = rest e' := by
        show (match A e with
          | some (.nx e1) => rest e1
          | r => r) = _
        rw [h2]
      rw [hC]
      exact h4
    | rt a =>
      obtain ⟨w, h2, h3⟩ := h1
      have h3' : (pg a).ok w := h3
      refine ⟨w, ?_, h3'⟩
      show (match A e with
        | some (.nx e1) => rest e1
        | r => r) = _
      rw [h2]
      have hfa := hf a
      revert h3' hfa
      cases pg a with
      | nx Γ => intro _ h; cases h
      | fn Γ => intro _ h; cases h
      | bk Γ => rintro ⟨e', rfl, _⟩ _; rfl
      | rt s Γ => rintro ⟨b, e', rfl, _⟩ _; rfl
theorem j_if1 {B' : FS} (k : J Γ (cX t fun b => match b with
  | true => A
  | false => B') m po) : J Γ (sIf t A B') m po := k.eq (funext fun e => by
  show bndS (t e) (fun b e1 => match b with
    | true => A e1
    | false => B' e1) = _
  refine congrArg _ (funext fun a => funext fun e1 => ?_)
  cases a <;> rfl)
theorem j_if {B' : FS} (k : J Γ (cX t fun b => match b with
  | true => sSeq A rest
  | false => sSeq B' rest) m po) : J Γ (sSeq (sIf t A B') rest) m po := k.eq (funext fun e => by
  show (match bndS (t e) (fun b e1 => match b with
    | true => A e1
    | false => B' e1) with
    | some (.nx e1) => rest e1
    | r => r) = _
  rw [seq_bndS]
  refine congrArg _ (funext fun a => funext fun e1 => ?_)
  cases a <;> rfl)
def cTgt (g : FG) (d : PyData) (C : KC) : KC := fun e => match g d e with
  | none => none
  | some e1 => C e1
theorem j_gN (k : J (Γ.set i (some (.d x))) C m po) : J Γ (cTgt (gN i) x C) m po := k.to fun e he => ⟨_, he.set (s := .d x) (b := some (.fr x)) rfl, rfl⟩
theorem j_gT2 (k : J ((Γ.set i (some (.d x))).set j (some (.d y))) C m po) : J Γ (cTgt (gT2 i j) (.tuple [x, y]) C) m po := k.to fun e he => ⟨_, (he.set (s := .d x) (b := some (.fr x)) rfl).set (s := .d y) (b := some (.fr y)) rfl, rfl⟩
def deadOk : List Nat → Ctx → Bool
  | [], _ => true
  | i :: is, Γ => (match Γ[i]? with
    | some none => true
    | none => true
    | _ => false) && deadOk is Γ
theorem Cov.forget : ∀ (dead : List Nat) {e : VL.Env}, deadOk dead Γ = true → Cov Γ e → Cov Γ (VL.forget dead e)
  | [], _, _, h => h
  | i :: is, e, hd, h => by
    show Cov Γ (VL.forget is (e.set i none))
    have hd' : ((match Γ[i]? with
      | some none => true
      | none => true
      | _ => false) && deadOk is Γ) = true := hd
    rw [Bool.and_eq_true] at hd'
    refine Cov.forget is hd'.2 ?_
    refine ⟨by rw [List.length_set, h.len], fun j s hj => ?_⟩
    by_cases q : i = j
    · subst q
      rw [hj] at hd'
      cases hd'.1
    · rw [at_set_ne q]
      exact h.hold j s hj
def foldM {τ σ : Type} (mb : σ → τ → R σ) : List τ → σ → R σ
  | [], s => .ok s
  | x :: xs, s => (mb s x).bind (foldM mb xs)
theorem j_forL {g : FG} {body : FS} {dead : List Nat} {D : τ → PyData} {Γs : σ → Ctx} {mb : σ → τ → R σ} (hd : ∀ s, deadOk dead (Γs s) = true) (hb : ∀ s x, J (Γs s) (cTgt g (D x) body) (mb s x) fun s' => .nx (Γs s')) : ∀ (xs : List τ) (s : σ), J (Γs s) (sForL g body dead (xs.map D)) (foldM mb xs s) fun s => .nx (Γs s)
  | [], s => fun e he => ⟨_, rfl, _, rfl, he.forget dead (hd s)⟩
  | x :: xs, s => fun e he => by
    have h1 := hb s x e he
    have hC : sForL g body dead ((x :: xs).map D) e = match cTgt g (D x) body e with
      | some (.nx e2) => sForL g body dead (xs.map D) (forget dead e2)
      | some (.ct e2) => sForL g body dead (xs.map D) (forget dead e2)
      | some (.bk e2) => some (.nx (forget dead e2))
      | some (.rt b e2) => some (.rt b e2)
      | some (.ex c e2) => some (.ex c e2)
      | none => none := by
      show (match g (D x) e with
        | none => none
        | some e1 => _) = _
      unfold cTgt
      cases g (D x) e <;> rfl
    rw [hC]
    unfold foldM
    cases q : mb s x with
    | no => trivial
    | ex c =>
      rw [q] at h1
      obtain ⟨e', h2⟩ := h1
      rw [h2]
      exact ⟨e', rfl⟩
    | ok s' =>
      rw [q] at h1
      obtain ⟨w, h2, e', rfl, h3⟩ := h1
      rw [h2]
      exact j_forL hd hb xs s' _ (h3.forget dead (hd s'))
theorem j_for {g : FG} {body : FS} {dead : List Nat} {xs : List τ} {D : τ → PyData} {Γs : σ → Ctx} {mb : σ → τ → R σ} (s0 : σ) (h0 : restr l Γ = Γs s0) (hd : ∀ s, deadOk dead (Γs s) = true) (hb : ∀ s x, J (Γs s) (cTgt g (D x) body) (mb s x) fun s' => .nx (Γs s')) : J Γ (sForL g body dead (xs.map D)) (foldM mb xs s0) fun s => .nx (Γs s) := fun e he => j_forL hd hb xs s0 e (he.of h0)
theorem j_sFor {g : FG} {body : FS} {dead : List Nat} (k : J Γ (cX fi fun ds => sForL g body dead ds) m po) : J Γ (sFor fi g body dead) m po := k
/-- with ends within -/
def loopM {τ σ γ : Type} (mb : σ → τ → R (Fl σ γ)) : List τ → σ → R (Fl σ γ)
  | [], s => .ok (.nx s)
  | x :: xs, s => (mb s x).bind fun r => match r with
    | .nx s => loopM mb xs s
    | .bk s => .ok (.nx s)
    | .rt a => .ok (.rt a)
theorem j_loopL {g : FG} {body : FS} {dead : List Nat} {D : τ → PyData} {Γs : σ → Ctx} {mb : σ → τ → R (Fl σ α)} (hf : ∀ a, ∃ s Γ', po a = .rt s Γ') (hd : ∀ s, deadOk dead (Γs s) = true) (hb : ∀ s x, J (Γs s) (cTgt g (D x) body) (mb s x) (poF Γs po)) : ∀ (xs : List τ) (s : σ), J (Γs s) (sForL g body dead (xs.map D)) (loopM mb xs s) (poF Γs po)
  | [], s => fun e he => ⟨_, rfl, _, rfl, he.forget dead (hd s)⟩
  | x :: xs, s => fun e he => by
    have h1 := hb s x e he
    have hC : sForL g body dead ((x :: xs).map D) e = match cTgt g (D x) body e with
      | some (.nx e2) => sForL g body dead (xs.map D) (forget dead e2)
      | some (.ct e2) => sForL g body dead (xs.map D) (forget dead e2)
      | some (.bk e2) => some (.nx (forget dead e2))
      | some (.rt b e2) => some (.rt b e2)
      | some (.ex c e2) => some (.ex c e2)
      | none => none := by
      show (match g (D x) e with
        | none => none
        | some e1 => _) = _
      unfold cTgt
      cases g (D x) e <;> rfl
    rw [hC]
    unfold loopM
    cases q : mb s x with
    | no => trivial
    | ex c =>
      rw [q] at h1
      obtain ⟨e', h2⟩ := h1
      rw [h2]
      exact ⟨e', rfl⟩
    | ok r =>
      rw [q] at h1
      cases r with
      | nx s' =>
        obtain ⟨w, h2, e', rfl, h3⟩ := h1
        rw [h2]
        exact j_loopL hf hd hb xs s' _ (h3.forget dead (hd s'))
      | bk s' =>
        obtain ⟨w, h2, e', rfl, h3⟩ := h1
        rw [h2]
        exact ⟨_, rfl, _, rfl, h3.forget dead (hd s')⟩
      | rt a =>
        obtain ⟨w, h2, h3⟩ := h1
        rw [h2]
        have h3' : (po a).ok w := h3
        obtain ⟨s1, Γ1, hp⟩ := hf a
        have h4 := h3'
        rw [hp] at h4
        obtain ⟨b, e', rfl, _⟩ := h4
        exact ⟨_, rfl, h3'⟩
theorem j_loop {g : FG} {body : FS} {dead : List Nat} {xs : List τ} {D : τ → PyData} {Γs : σ → Ctx} {mb : σ → τ → R (Fl σ α)} (s0 : σ) (h0 : restr l Γ = Γs s0) (hf : ∀ a, ∃ s Γ', po a = .rt s Γ') (hd : ∀ s, deadOk dead (Γs s) = true) (hb : ∀ s x, J (Γs s) (cTgt g (D x) body) (mb s x) (poF Γs po)) : J Γ (sForL g body dead (xs.map D)) (loopM mb xs s0) (poF Γs po) := fun e he => j_loopL hf hd hb xs s0 e (he.of h0)
def whileM {σ : Type} (mt : σ → R Bool) (mb : σ → R σ) : Nat → σ → R σ
  | 0, _ => .no
  | n + 1, s => (mt s).bind fun b => if b = true then (mb s).bind (whileM mt mb n) else .ok s
theorem j_whileL {body : FS} {dead : List Nat} {Γs : σ → Ctx} {mt : σ → R Bool} {mb : σ → R σ} (hd : ∀ s, deadOk dead (Γs s) = true) (ht : ∀ s, J (Γs s) (cX t kB) (mt s) fun b => .rt (.d (.bool b)) (Γs s)) (hb : ∀ s, J (Γs s) body (mb s) fun s' => .nx (Γs s')) : ∀ (n : Nat) (s : σ), J (Γs s) (sWhile t body dead n) (whileM mt mb n s) fun s => .nx (Γs s)
  | 0, s => fun e he => True.intro
  | n + 1, s => by
    have h := j_sub (K := fun b e1 => match b with
      | false => some (.nx e1)
      | true => match body e1 with
        | some (.nx e2) => sWhile t body dead n (forget dead e2)
        | some (.ct e2) => sWhile t body dead n (forget dead e2)
        | some (.bk e2) => some (.nx (forget dead e2))
        | some (.rt b e2) => some (.rt b e2)
        | some (.ex c e2) => some (.ex c e2)
        | none => none) (bv := fun b => b) (Γ1 := fun _ => Γs s) (po := fun s => PO.nx (Γs s)) (mk := fun b => if b = true then (mb s).bind (whileM mt mb n) else .ok s) (ht s) fun b => by
      cases b with
      | false => exact fun e he => ⟨_, rfl, _, rfl, he⟩
      | true =>
        intro e he
        have h1 := hb s e he
        show match (mb s).bind (whileM mt mb n) with
          | .no => True
          | .ok a => ∃ w, (match body e with
            | some (.nx e2) => sWhile t body dead n (forget dead e2)
            | some (.ct e2) => sWhile t body dead n (forget dead e2)
            | some (.bk e2) => some (.nx (forget dead e2))
            | some (.rt b e2) => some (.rt b e2)
            | some (.ex c e2) => some (.ex c e2)
            | none => none) = some w ∧ (PO.nx (Γs a)).ok w
          | .ex c => ∃ e', (match body e with
            | some (.nx e2) => sWhile t body dead n (forget dead e2)
            | some (.ct e2) => sWhile t body dead n (forget dead e2)
            | some (.bk e2) => some (.nx (forget dead e2))
            | some (.rt b e2) => some (.rt b e2)
            | some (.ex c e2) => some (.ex c e2)
            | none => none) = some (.ex c e')
        cases q : mb s with
        | no => trivial
        | ex c =>
          rw [q] at h1
          obtain ⟨e', h2⟩ := h1
          rw [h2]
          exact ⟨e', rfl⟩
        | ok s' =>
          rw [q] at h1
          obtain ⟨w, h2, e', rfl, h3⟩ := h1
          rw [h2]
          exact j_whileL hd ht hb n s' _ (h3.forget dead (hd s'))
    exact h
theorem j_while {body : FS} {dead : List Nat} {Γs : σ → Ctx} {mt : σ → R Bool} {mb : σ → R σ} (s0 : σ) (h0 : restr l Γ = Γs s0) (hd : ∀ s, deadOk dead (Γs s) = true) (ht : ∀ s, J (Γs s) (cX t kB) (mt s) fun b => .rt (.d (.bool b)) (Γs s)) (hb : ∀ s, J (Γs s) body (mb s) fun s' => .nx (Γs s')) : J Γ (sWhile t body dead n) (whileM mt mb n s0) fun s => .nx (Γs s) := fun e he => j_whileL hd ht hb n s0 e (he.of h0)
end TM
set_option maxRecDepth 100000
namespace TM
open PySem L2 VL PySem.W PySem.SeqAt
variable {Γ Γ' Γ1 Γ2 : Ctx} {α β σ τ γ υ : Type} {m : R α} {po : α → PO} {K : O → KC} {C : KC} {o o1 o2 o3 : O} {x y : PyData} {b z : B} {i j n : Nat} {f fa fb fc fx fy fv : FE} {rest A : FS} {op : PyData → PyData → Option B} {fd : FD} {fi : FI} {t : FT} {l : List Nat} {a : α}
/-- a value alone -/
def kF : O → KC := fun o => cFz o fun d e => some (.rt (.fr d) e)
theorem j_kf (h : Fz Γ o x Γ1) {a : α} (hr : restr l Γ1 = Γ') (hp : po a = .rt (.d x) Γ') : J Γ (kF o) (.ok a) po := fun e he => by
  obtain ⟨e', h1, h2⟩ := h e he
  refine ⟨.rt (.fr x) e', ?_, ?_⟩
  · show (fz e o).bind _ = _
    rw [h1]
    rfl
  · rw [hp]
    exact ⟨_, _, rfl, rfl, h2.of hr⟩
/-- what an expression's kF tells -/
theorem kF_of {q : Option (Out O)} {b : B} {e' : VL.Env} (h : bndS q kF = some (.rt b e')) : ∃ o e1 d, q = some (.ok o e1) ∧ fz e1 o = some (d, e') ∧ b = .fr d := by
  cases q with
  | none => cases h
  | some r =>
    cases r with
    | ex c e1 => cases h
    | ok o e1 =>
      have h' : ((fz e1 o).bind fun p => some (SO.rt (.fr p.1) p.2)) = some (.rt b e') := h
      cases q2 : fz e1 o with
      | none => rw [q2] at h'; cases h'
      | some p =>
        rw [q2] at h'
        obtain ⟨d, e2⟩ := p
        cases h'
        exact ⟨o, e1, d, rfl, q2, rfl⟩
theorem kF_nx {q : Option (Out O)} {e' : VL.Env} (h : bndS q kF = some (.nx e')) : False := by
  cases q with
  | none => cases h
  | some r =>
    cases r with
    | ex c e1 => cases h
    | ok o e1 =>
      have h' : ((fz e1 o).bind fun p => some (SO.rt (.fr p.1) p.2)) = some (.nx e') := h
      cases q2 : fz e1 o with
      | none => rw [q2] at h'; cases h'
      | some p => rw [q2] at h'; cases h'
def kSkip : KC := fun e => some (.nx e)
theorem j_skip {a : α} (hr : restr l Γ = Γ') (hp : po a = .nx Γ') : J Γ kSkip (.ok a) po := fun e he => ⟨_, rfl, by
  rw [hp]
  exact ⟨_, rfl, he.of hr⟩⟩
def cItem (g : FG) (d : PyData) (t : FT) (f : FE) : KC := cTgt g d (cX t fun b => match b with
  | true => cX f kF
  | false => kSkip)
/-- an item's end: taken, or left out -/
def poI (E : υ → PyData) (Γs : σ → Ctx) : Option υ × σ → PO
  | (some y, s) => .rt (.d (E y)) (Γs s)
  | (none, s) => .nx (Γs s)
def lcS {τ σ υ : Type} (step : σ → τ → R (Option υ × σ)) : List τ → List υ → σ → R (List υ × σ)
  | [], acc, s => .ok (acc, s)
  | x :: xs, acc, s => (step s x).bind fun r => match r with
    | (none, s') => lcS step xs acc s'
    | (some y, s') => if acc.length < big then lcS step xs (acc ++ [y]) s' else .no
theorem item_of {g : FG} {d : PyData} {e : VL.Env} {w : SO} (h : cItem g d t f e = some w) : (∃ e1 e2, g d e = some e1 ∧ t e1 = some (.ok false e2) ∧ w = .nx e2) ∨ (∃ e1 e2 o e3 x e4, g d e = some e1 ∧ t e1 = some (.ok true e2) ∧ f e2 = some (.ok o e3) ∧ fz e3 o = some (x, e4) ∧ w = .rt (.fr x) e4) ∨ ∃ c e', w = .ex c e' := by
  have h0 : (match g d e with
    | none => none
    | some e1 => bndS (t e1) fun b => match b with
      | true => cX f kF
      | false => kSkip) = some w := h
  cases q : g d e with
  | none => rw [q] at h0; cases h0
  | some e1 =>
    rw [q] at h0
    dsimp only at h0
    cases q2 : t e1 with
    | none => rw [q2] at h0; cases h0
    | some r =>
      rw [q2] at h0
      cases r with
      | ex c e2 => cases h0; exact .inr (.inr ⟨_, _, rfl⟩)
      | ok b e2 =>
        cases b with
        | false => cases h0; exact .inl ⟨e1, e2, rfl, q2, rfl⟩
        | true =>
          have h1 : bndS (f e2) kF = some w := h0
          cases w with
          | rt b' e' =>
            obtain ⟨o, e3, x, k1, k2, rfl⟩ := kF_of h1
            exact .inr (.inl ⟨e1, e2, o, e3, x, e', rfl, q2, k1, k2, rfl⟩)
          | ex c e' => exact .inr (.inr ⟨_, _, rfl⟩)
          | nx e' => exact (kF_nx h1).elim
          | bk e' =>
            cases q3 : f e2 with
            | none => rw [q3] at h1; cases h1
            | some r =>
              rw [q3] at h1
              cases r with
              | ex c e1 => cases h1
              | ok o e1 =>
                have h' : ((fz e1 o).bind fun p => some (SO.rt (.fr p.1) p.2)) = some (.bk e') := h1
                cases q4 : fz e1 o with
                | none => rw [q4] at h'; cases h'
                | some p => rw [q4] at h'; cases h'
          | ct e' =>
            cases q3 : f e2 with
            | none => rw [q3] at h1; cases h1
            | some r =>
              rw [q3] at h1
              cases r with
              | ex c e1 => cases h1
              | ok o e1 =>
                have h' : ((fz e1 o).bind fun p => some (SO.rt (.fr p.1) p.2)) = some (.ct e') := h1
                cases q4 : fz e1 o with
                | none => rw [q4] at h'; cases h'
                | some p => rw [q4] at h'; cases h'
/-- no errors within -/
def R.calm (m : R α) : R α := match m with
  | .ex _ => .no
  | m => m
theorem lc_loop {g : FG} {vs : List Nat} {D : τ → PyData} {E : υ → PyData} {Γs : σ → Ctx} {step : σ → τ → R (Option υ × σ)} (hd : ∀ s, deadOk vs (Γs s) = true) (hb : ∀ s x, J (Γs s) (cItem g (D x) t f) (step s x) (poI E Γs)) : ∀ (xs : List τ) (acc : List υ) (s : σ) (e : VL.Env), Cov (Γs s) e → ∀ r, lcS (fun s x => (step s x).calm) xs acc s = .ok r →
    ∃ e', fLcL g t f vs (xs.map D) (acc.map E) e = some (.ok (.b (.ow (r.1.map E))) e') ∧ Cov (Γs r.2) e'
  | [], acc, s, e, he, r, hr => by
    cases hr
    exact ⟨e, rfl, he⟩
  | x :: xs, acc, s, e, he, r, hr => by
    unfold lcS at hr
    have h1 := hb s x e he
    cases q : step s x with
    | no => rw [q] at hr; cases hr
    | ex c => rw [q] at hr; cases hr
    | ok p =>
      rw [q] at hr h1
      obtain ⟨y, s'⟩ := p
      obtain ⟨w, h2, h3⟩ := h1
      cases y with
      | none =>
        have hr' : lcS (fun s x => (step s x).calm) xs acc s' = .ok r := hr
        obtain ⟨e', rfl, h5⟩ := h3
        rcases item_of h2 with ⟨e1, e2, k1, k2, k3⟩ | ⟨e1, e2, o, e3, x', e4, k1, k2, k3, k4, k5⟩ | ⟨c, e1, k⟩
        · cases k3
          obtain ⟨e6, k6, k7⟩ := lc_loop hd hb xs acc s' (forget vs e') (h5.forget vs (hd s')) r hr'
          refine ⟨e6, ?_, k7⟩
          show fLcL g t f vs (D x :: xs.map D) _ e = _
          rw [fLcL, k1]
          dsimp only
          rw [k2]
          exact k6
        · cases k5
        · cases k
      | some y =>
        have hr' : (if acc.length < big then lcS (fun s x => (step s x).calm) xs (acc ++ [y]) s' else .no) = .ok r := hr
        split at hr'
        · rename_i hl
          obtain ⟨b, e', rfl, h5, h6⟩ := h3
          rcases item_of h2 with ⟨e1, e2, k1, k2, k3⟩ | ⟨e1, e2, o, e3, x', e4, k1, k2, k3, k4, k5⟩ | ⟨c, e1, k⟩
          · cases k3
          · cases k5
            cases h5
            obtain ⟨e6, k6, k7⟩ := lc_loop hd hb xs (acc ++ [y]) s' (forget vs e') (h6.forget vs (hd s')) r hr'
            refine ⟨e6, ?_, k7⟩
            show fLcL g t f vs (D x :: xs.map D) _ e = _
            rw [fLcL, k1]
            dsimp only
            rw [k2]
            dsimp only
            rw [k3]
            dsimp only
            rw [k4]
            dsimp only
            rw [List.length_map, if_pos hl]
            rw [List.map_append] at k6
            exact k6
          · cases k
        · cases hr'
def cLc (g : FG) (t : FT) (f : FE) (vs : List Nat) (ds : List PyData) (K : O → KC) : KC := fun e => bndS (fLcL g t f vs ds [] (forget vs e)) K
theorem j_lc {g : FG} {vs : List Nat} (k : J Γ (cX fi fun ds => cLc g t f vs ds K) m po) : J Γ (cX (fLc fi g t f vs) K) m po := k.eq (funext fun e => by
  show bndS (bnd (fi e) fun ds e1 => fLcL g t f vs ds [] (forget vs e1)) K = _
  rw [bndS_bnd]
  rfl)
theorem j_lcG {g : FG} {vs : List Nat} {D : τ → PyData} {xs : List τ} {E : υ → PyData} {Γs : σ → Ctx} {step : σ → τ → R (Option υ × σ)} {mk : List υ × σ → R α} {xr : List υ → PyData} (s0 : σ) (h0 : restr l Γ = Γs s0) (hd : ∀ s, deadOk vs (Γs s) = true) (hb : ∀ s x, J (Γs s) (cItem g (D x) t f) (step s x) (poI E Γs)) (hx : ∀ ys, PyData.list (ys.map E) = xr ys) (k : ∀ r, J (Γs r.2) (K (.b (bow (xr r.1)))) (mk r) po) : J Γ (cLc g t f vs (xs.map D) K) ((lcS (fun s x => (step s x).calm) xs [] s0).bind mk) po := fun e he => by
  cases q : lcS (fun s x => (step s x).calm) xs [] s0 with
  | no => trivial
  | ex c =>
    exfalso
    have : ∀ (xs : List τ) (acc : List υ) (s : σ), lcS (fun s x => (step s x).calm) xs acc s ≠ .ex c := by
      intro xs
      induction xs with
      | nil => intro acc s h; cases h
      | cons x xs ih =>
        intro acc s h
        unfold lcS at h
        cases q : step s x with
        | no => rw [q] at h; cases h
        | ex c => rw [q] at h; cases h
        | ok p =>
          rw [q] at h
          obtain ⟨y, s'⟩ := p
          cases y with
          | none => exact ih acc s' h
          | some y =>
            have h' : (if acc.length < big then lcS (fun s x => (step s x).calm) xs (acc ++ [y]) s' else .no) = .ex c := h
            split at h'
            · exact ih _ _ h'
            · cases h'
    exact this _ _ _ q
  | ok r =>
    obtain ⟨e', h1, h2⟩ := lc_loop hd hb xs [] s0 (forget vs e) ((he.of h0).forget vs (hd s0)) r q
    have h3 := k r e' h2
    have hC : cLc g t f vs (xs.map D) K e = K (.b (bow (xr r.1))) e' := by
      unfold cLc
      have h1' : fLcL g t f vs (xs.map D) [] (forget vs e) = some (.ok (.b (.ow (r.1.map E))) e') := h1
      rw [h1', ← hx]
      rfl
    rw [hC]
    exact h3
/-- what keeps all that stands around -/
def lcM {τ υ : Type} (step : τ → R (Option υ)) : List τ → List υ → R (List υ)
  | [], acc => .ok acc
  | x :: xs, acc => (step x).bind fun r => match r with
    | none => lcM step xs acc
    | some y => if acc.length < big then lcM step xs (acc ++ [y]) else .no
theorem lcM_S (step : τ → R (Option υ)) : ∀ (xs : List τ) (acc : List υ), lcS (fun (_ : Unit) x => ((step x).bind fun r => R.ok (r, ())).calm) xs acc () = (lcM (fun x => (step x).calm) xs acc).bind fun ys => .ok (ys, ())
  | [], acc => rfl
  | x :: xs, acc => by
    unfold lcS lcM
    cases q : step x with
    | no => rfl
    | ex c => rfl
    | ok r =>
      cases r with
      | none => exact lcM_S step xs acc
      | some y =>
        show (if acc.length < big then lcS _ xs (acc ++ [y]) () else .no) = (if acc.length < big then lcM _ xs (acc ++ [y]) else .no).bind _
        split
        · exact lcM_S step xs (acc ++ [y])
        · rfl
/-- an item's end without a state -/
def poJ (E : υ → PyData) (Γs : Ctx) : Option υ → PO
  | some y => .rt (.d (E y)) Γs
  | none => .nx Γs
theorem j_lcM {g : FG} {vs : List Nat} {D : τ → PyData} {xs : List τ} {E : υ → PyData} {Γs : Ctx} {step : τ → R (Option υ)} {mk : List υ → R α} {xr : List υ → PyData} (h0 : restr l Γ = Γs) (hd : deadOk vs Γs = true) (hb : ∀ x, J Γs (cItem g (D x) t f) (step x) (poJ E Γs)) (hx : ∀ ys, PyData.list (ys.map E) = xr ys) (k : ∀ r, J Γs (K (.b (bow (xr r)))) (mk r) po) : J Γ (cLc g t f vs (xs.map D) K) ((lcM (fun x => (step x).calm) xs []).bind mk) po := by
  have h := j_lcG (Γ := Γ) (K := K) (po := po) (Γs := fun _ : Unit => Γs) (step := fun _ x => (step x).bind fun r => R.ok (r, ())) (E := E) (mk := fun r => mk r.1) (xr := xr) (xs := xs) () h0 (fun _ => hd) (fun _ x e he => by
    have h1 := hb x e he
    cases q : step x with
    | no => trivial
    | ex c => rw [q] at h1; exact h1
    | ok r =>
      rw [q] at h1
      cases r <;> exact h1) hx fun r => k r.1
  rw [lcM_S, bind_assoc] at h
  exact h
/-- tests and values that say no to nothing -/
def lcP {τ υ : Type} (p : τ → Bool) (q : τ → υ) (xs : List τ) : Option (List υ) := if xs.length ≤ big then some ((xs.filter p).map q) else none
theorem lcP_loop (p : τ → Bool) (q : τ → υ) : ∀ (xs : List τ) (acc : List υ), acc.length + xs.length ≤ big → lcM (fun x => (R.ok (if p x = true then some (q x) else none)).calm) xs acc = .ok (acc ++ (xs.filter p).map q)
  | [], acc, _ => by simp [lcM]
  | x :: xs, acc, hl => by
    rw [List.length_cons] at hl
    unfold lcM
    by_cases hp : p x = true
    · rw [List.filter_cons_of_pos hp, if_pos hp]
      show (if acc.length < big then lcM _ xs (acc ++ [q x]) else .no) = _
      rw [if_pos (by omega), lcP_loop p q xs (acc ++ [q x]) (by rw [List.length_append, List.length_singleton]; omega), List.map_cons, List.append_assoc]
      rfl
    · rw [List.filter_cons_of_neg hp, if_neg hp]
      exact lcP_loop p q xs acc (by omega)
theorem j_lcP {g : FG} {vs : List Nat} {D : τ → PyData} {xs : List τ} {E : υ → PyData} {Γs : Ctx} {p : τ → Bool} {q : τ → υ} {mk : List υ → R α} {xr : List υ → PyData} (h0 : restr l Γ = Γs) (hd : deadOk vs Γs = true) (hb : ∀ x, J Γs (cItem g (D x) t f) (if p x = true then .ok (some (q x)) else .ok none) (poJ E Γs)) (hx : ∀ ys, PyData.list (ys.map E) = xr ys) (k : ∀ r, J Γs (K (.b (bow (xr r)))) (mk r) po) : J Γ (cLc g t f vs (xs.map D) K) (ob (lcP p q xs) mk) po := by
  refine j_ob fun a ha => ?_
  have hb' : ∀ x, J Γs (cItem g (D x) t f) (.ok (if p x = true then some (q x) else none)) (poJ E Γs) := fun x => by
    have := hb x
    split
    · rename_i h; rw [if_pos h] at this; exact this
    · rename_i h; rw [if_neg h] at this; exact this
  have h := j_lcM (mk := mk) (xs := xs) h0 hd hb' hx k
  unfold lcP at ha
  split at ha
  · rename_i hl
    cases ha
    rw [lcP_loop p q xs [] (by simpa using hl)] at h
    exact h
  · cases ha
def cPutI (i : Nat) (o : O) (d : PyData) (C : KC) : KC := fun e => match res e o, at? e i with
  | some (.int k), some (.ow ds) => (ixN ds.length k).bind fun j => C (e.set i (some (.ow (ds.set j d))))
  | _, _ => none
def cHas (i : Nat) (C : KC) : KC := fun e => match at? e i with
  | none => none
  | some _ => C e
theorem j_has {s : Sl} (h : Γ[i]? = some (some s)) (k : J Γ C m po) : J Γ (cHas i C) m po := k.to fun e he => ⟨e, he, by
  have h1 := he.hold i _ h
  unfold cHas
  cases q : at? e i with
  | none => rw [q] at h1; cases s <;> cases h1
  | some b => rfl⟩
theorem putAt_eq {C : KC} : (fun e => bndS (putAt i fx x e) fun _ => C) = cHas i (cX fx fun o => cPutI i o x C) := funext fun e => by
  show bndS (match at? e i with
    | none => none
    | some _ => bnd (fx e) fun o e1 => match res e1 o, at? e1 i with
      | some (.int k), some (.ow ds) => (ixN ds.length k).bind fun j => some (Out.ok () (e1.set i (some (.ow (ds.set j x)))))
      | _, _ => none) _ = _
  unfold cHas
  cases q : at? e i with
  | none => rfl
  | some b =>
    dsimp only
    rw [bndS_bnd]
    refine congrArg _ (funext fun a => funext fun e1 => ?_)
    unfold cPutI
    split
    · rw [bndS_ob]
      rfl
    · rfl
theorem j_put (k : J Γ (cX fv fun o => cFz o fun d => cHas i (cX fx fun o => cPutI i o d rest)) m po) : J Γ (sSeq (sPut i fx fv) rest) m po := k.eq (funext fun e => by
  show thn (bndS (fv e) fun o e1 => (fz e1 o).bind fun p => bndS (putAt i fx p.1 p.2) fun _ e2 => some (.nx e2)) rest = _
  rw [thn_bndS]
  refine congrArg _ (funext fun a => funext fun e1 => ?_)
  rw [thn_ob]
  refine congrArg _ (funext fun p => ?_)
  rw [thn_bndS]
  exact congrFun putAt_eq p.2)
def cAugAt1 (i : Nat) (op : PyData → PyData → Option B) (o : O) (fv : FE) (C : KC) : KC := fun e1 => match res e1 o, at? e1 i with
  | some (.int k), some (.ow ds) => (ixN ds.length k).bind fun j => (ds[j]?).bind fun old => bndS (fv e1) fun o2 e2 => match res e2 o2, at? e2 i with
    | some d, some (.ow ds2) => (op old d).bind fun z => match z with
      | .fr z => (ixN ds2.length k).bind fun j2 => C (e2.set i (some (.ow (ds2.set j2 z))))
      | _ => none
    | _, _ => none
  | _, _ => none
theorem j_augAt (k : J Γ (cHas i (cX fx fun o => cAugAt1 i op o fv rest)) m po) : J Γ (sSeq (sAugAt i op fx fv) rest) m po := k.eq (funext fun e => by
  show thn ((match at? e i with
    | none => none
    | some _ => bndS (fx e) fun o e1 => match res e1 o, at? e1 i with
      | some (.int k), some (.ow ds) => (ixN ds.length k).bind fun j => (ds[j]?).bind fun old => bndS (fv e1) fun o2 e2 => match res e2 o2, at? e2 i with
        | some d, some (.ow ds2) => (op old d).bind fun z => match z with
          | .fr z => (ixN ds2.length k).bind fun j2 => some (SO.nx (e2.set i (some (.ow (ds2.set j2 z)))))
          | _ => none
        | _, _ => none
      | _, _ => none)) rest = _
  unfold cHas
  cases q : at? e i with
  | none => rfl
  | some b =>
    dsimp only
    rw [thn_bndS]
    refine congrArg _ (funext fun a => funext fun e1 => ?_)
    unfold cAugAt1
    split
    · rw [thn_ob]
      refine congrArg _ (funext fun j => ?_)
      rw [thn_ob]
      refine congrArg _ (funext fun old => ?_)
      rw [thn_bndS]
      refine congrArg _ (funext fun o2 => funext fun e2 => ?_)
      split
      · rw [thn_ob]
        refine congrArg _ (funext fun z => ?_)
        cases z with
        | fr z =>
          dsimp only
          rw [thn_ob]
          rfl
        | _ => rfl
      · rfl
    · rfl)
/-- x[k] op= v: v told with x as it stands -/
theorem j_augAt1 {k : Int} {ds : List PyData} {r : Option β} {v : PyData} {y : β → PyData} {mk : β → R α} (h : Γ[i]? = some (some (.o (.list ds)))) (ho : Rd Γ o (.int k)) (hv : J Γ (cX fv kO) (.ok ()) fun _ => .rt (.d v) Γ)
    (hr : ∀ a, r = some a → ∃ j old z, ixN ds.length k = some j ∧ ds[j]? = some old ∧ op old v = some (.fr z) ∧ PyData.list (ds.set j z) = y a) (kk : ∀ a, J (Γ.set i (some (.o (y a)))) C (mk a) po) : J Γ (cAugAt1 i op o fv C) (ob r mk) po := j_ob fun a ha => fun e he => by
  obtain ⟨j, old, z, g1, g2, g3, g4⟩ := hr a ha
  obtain ⟨w, q1, b, e', rfl, q2, q3⟩ := hv e he
  have q4 : ∃ o3, fv e = some (.ok o3 e') ∧ res e' o3 = some v := by
    have q1' : bndS (fv e) kO = some (.rt b e') := q1
    cases q : fv e with
    | none => rw [q] at q1'; cases q1'
    | some r =>
      rw [q] at q1'
      cases r with
      | ex c e1 => cases q1'
      | ok o3 e1 =>
        have q5 : kO o3 e1 = some (.rt b e') := q1'
        unfold kO at q5
        split at q5
        · rename_i d qd
          cases q5
          cases q2
          exact ⟨o3, rfl, qd⟩
        · cases q5
  obtain ⟨o3, q5, q6⟩ := q4
  have hC : cAugAt1 i op o fv C e = C (e'.set i (some (.ow (ds.set j z)))) := by
    unfold cAugAt1
    rw [ho e he, he.own h]
    show (ixN ds.length k).bind _ = _
    rw [g1, Option.bind_some, g2, Option.bind_some, q5]
    show (match res e' o3, at? e' i with
      | some d, some (.ow ds2) => (op old d).bind fun z => match z with
        | .fr z => (ixN ds2.length k).bind fun j2 => C (e'.set i (some (.ow (ds2.set j2 z))))
        | _ => none
      | _, _ => none) = _
    rw [q6, q3.own h]
    show (op old v).bind _ = _
    rw [g3, Option.bind_some]
    show (ixN ds.length k).bind _ = _
    rw [g1]
    rfl
  rw [hC]
  exact kk a _ (q3.set (s := .o (y a)) (by rw [← g4]; rfl))
section
variable {K : List PyData → KC}
def cIt (sel : PyData → Option (List PyData)) (o : O) (K : List PyData → KC) : KC := fun e => (fz e o).bind fun p => (sel p.1).elim (none : Option SO) fun ds => K ds p.2
def selL : PyData → Option (List PyData)
  | .list ds => some ds
  | _ => none
theorem j_it {sel : PyData → Option (List PyData)} {ds : List PyData} (h : Fz Γ o x Γ') (hs : sel x = some ds) (k : J Γ' (K ds) m po) : J Γ (cIt sel o K) m po := k.to fun e he => by
  obtain ⟨e', h1, h2⟩ := h e he
  refine ⟨e', h2, ?_⟩
  show (fz e o).bind _ = _
  rw [h1, Option.bind_some, hs]
  rfl
theorem j_iSeq (k : J Γ (cX f fun o => cIt selL o K) m po) : J Γ (cX (iSeq f) K) m po := k.eq (funext fun e => by
  show bndS (bnd (f e) fun o e1 => (fz e1 o).bind fun p => match p.1 with
    | .list ds => some (Out.ok ds p.2)
    | _ => none) K = _
  rw [bndS_bnd]
  refine congrArg _ (funext fun a => funext fun e1 => ?_)
  rw [bndS_ob]
  refine congrArg _ (funext fun p => ?_)
  obtain ⟨d, e2⟩ := p
  cases d <;> rfl)
def selE : PyData → Option (List PyData)
  | .list ds => some (enumL 0 ds)
  | _ => none
theorem j_iEnum (k : J Γ (cX f fun o => cIt selE o K) m po) : J Γ (cX (iEnumr f) K) m po := k.eq (funext fun e => by
  show bndS (bnd (f e) fun o e1 => (fz e1 o).bind fun p => match p.1 with
    | .list ds => some (Out.ok (enumL 0 ds) p.2)
    | _ => none) K = _
  rw [bndS_bnd]
  refine congrArg _ (funext fun a => funext fun e1 => ?_)
  rw [bndS_ob]
  refine congrArg _ (funext fun p => ?_)
  obtain ⟨d, e2⟩ := p
  cases d <;> rfl)
/-- (0, x), (1, y), .. -/
def enumT {τ : Type} : Nat → List τ → List (Int × τ)
  | _, [] => []
  | i, x :: xs => ((i : Int), x) :: enumT (i + 1) xs
theorem enumL_map (D : τ → PyData) : ∀ (xs : List τ) (i : Nat), enumL i (xs.map D) = (enumT i xs).map fun p => .tuple [.int p.1, D p.2]
  | [], _ => rfl
  | x :: xs, i => by
    show PyData.tuple [.int i, D x] :: enumL (i + 1) (xs.map D) = _
    rw [enumL_map D xs (i + 1)]
    rfl
theorem selE_map (D : τ → PyData) (xs : List τ) : selE (.list (xs.map D)) = some ((enumT 0 xs).map fun p => .tuple [.int p.1, D p.2]) := by
  show some (enumL 0 (xs.map D)) = _
  rw [enumL_map]
def cRg1 (o : O) (K : List PyData → KC) : KC := fun e => match res e o with
  | some (.int j) => if lim j = true then K (rngN 0 j.toNat) e else none
  | _ => none
theorem j_iRg1 (k : J Γ (cX f fun o => cRg1 o K) m po) : J Γ (cX (iRange1 f) K) m po := k.eq (funext fun e => by
  show bndS (bnd (f e) fun o e1 => match res e1 o with
    | some (.int j) => if lim j = true then some (Out.ok (rngN 0 j.toNat) e1) else none
    | _ => none) K = _
  rw [bndS_bnd]
  refine congrArg _ (funext fun a => funext fun e1 => ?_)
  unfold cRg1
  split
  · split <;> rfl
  · rfl)
def rg1 (j : Int) : Option (List Int) := if lim j = true then some (rngL 0 j.toNat) else none
theorem j_rg1 {i : Int} {mk : List Int → R α} (h1 : Rd Γ o (.int i)) (k : ∀ xs : List Int, J Γ (K (xs.map Datum.toD)) (mk xs) po) : J Γ (cRg1 o K) (ob (rg1 i) mk) po := j_ob fun a ha => (k a).to fun e he => ⟨e, he, by
  unfold cRg1
  unfold rg1 at ha
  rw [h1 e he]
  dsimp only
  split at ha
  · rename_i q
    cases ha
    rw [if_pos q, rngN_L]
  · cases ha⟩
def cRg2 (o o2 : O) (K : List PyData → KC) : KC := fun e => match res e o, res e o2 with
  | some (.int i), some (.int j) => if lim i = true ∧ lim j = true then K (rngN i (j - i).toNat) e else none
  | _, _ => none
theorem j_iRg2 {g : FE} (k : J Γ (cX f fun o => cX g fun o2 => cRg2 o o2 K) m po) : J Γ (cX (iRange2 f g) K) m po := k.eq (funext fun e => by
  show bndS (bnd (f e) fun o e1 => bnd (g e1) fun o2 e2 => match res e2 o, res e2 o2 with
    | some (.int i), some (.int j) => if lim i = true ∧ lim j = true then some (Out.ok (rngN i (j - i).toNat) e2) else none
    | _, _ => none) K = _
  rw [bndS_bnd]
  refine congrArg _ (funext fun a => funext fun e1 => ?_)
  rw [bndS_bnd]
  refine congrArg _ (funext fun a => funext fun e1 => ?_)
  unfold cRg2
  split
  · split <;> rfl
  · rfl)
def rg2 (i j : Int) : Option (List Int) := if lim i = true ∧ lim j = true then some (rngL i (j - i).toNat) else none
theorem j_rg2 {i j : Int} {mk : List Int → R α} (h1 : Rd Γ o (.int i)) (h2 : Rd Γ o2 (.int j)) (k : ∀ xs : List Int, J Γ (K (xs.map Datum.toD)) (mk xs) po) : J Γ (cRg2 o o2 K) (ob (rg2 i j) mk) po := j_ob fun a ha => (k a).to fun e he => ⟨e, he, by
  unfold cRg2
  unfold rg2 at ha
  rw [h1 e he, h2 e he]
  dsimp only
  split at ha
  · rename_i q
    cases ha
    rw [if_pos q, rngN_L]
  · cases ha⟩
end
def kOb : O → KC := fun o e => match o with
  | .b (.fr d) => some (.rt (.fr d) e)
  | _ => none
theorem j_kob {a : α} (hr : restr l Γ = Γ') (hp : po a = .rt (.d x) Γ') : J Γ (kOb (.b (.fr x))) (.ok a) po := fun e he => ⟨_, rfl, by
  rw [hp]
  exact ⟨_, _, rfl, rfl, he.of hr⟩⟩
theorem kO_of {q : Option (Out O)} {b : B} {e' : VL.Env} (h : bndS q kO = some (.rt b e')) : ∃ o d, q = some (.ok o e') ∧ res e' o = some d ∧ b = .fr d := by
  cases q with
  | none => cases h
  | some r =>
    cases r with
    | ex c e1 => cases h
    | ok o e1 =>
      have q5 : kO o e1 = some (.rt b e') := h
      unfold kO at q5
      split at q5
      · rename_i d qd
        cases q5
        exact ⟨o, d, rfl, qd, rfl⟩
      · cases q5
theorem kOb_of {q : Option (Out O)} {b : B} {e' : VL.Env} (h : bndS q kOb = some (.rt b e')) : ∃ d, q = some (.ok (.b (.fr d)) e') ∧ b = .fr d := by
  cases q with
  | none => cases h
  | some r =>
    cases r with
    | ex c e1 => cases h
    | ok o e1 =>
      have q5 : kOb o e1 = some (.rt b e') := h
      unfold kOb at q5
      split at q5
      · rename_i d
        cases q5
        exact ⟨d, rfl, rfl⟩
      · cases q5
/-- a value that is told, no more -/
def Tot (Γ : Ctx) (f : FE) (x : PyData) : Prop := J Γ (cX f kO) (.ok ()) fun _ => .rt (.d x) Γ
def TotB (Γ : Ctx) (f : FE) (x : PyData) : Prop := J Γ (cX f kOb) (.ok ()) fun _ => .rt (.d x) Γ
theorem Tot.run (h : Tot Γ f x) {e : VL.Env} (he : Cov Γ e) : ∃ o e', f e = some (.ok o e') ∧ res e' o = some x ∧ Cov Γ e' := by
  obtain ⟨w, h2, b, e', rfl, h4, h5⟩ := h e he
  obtain ⟨o, d, q1, q2, rfl⟩ := kO_of h2
  cases h4
  exact ⟨o, e', q1, q2, h5⟩
theorem TotB.run (h : TotB Γ f x) {e : VL.Env} (he : Cov Γ e) : ∃ e', f e = some (.ok (.b (.fr x)) e') ∧ Cov Γ e' := by
  obtain ⟨w, h2, b, e', rfl, h4, h5⟩ := h e he
  obtain ⟨d, q1, rfl⟩ := kOb_of h2
  cases h4
  exact ⟨e', q1, h5⟩
theorem j_andVP {b1 b2 : Bool} (ha : Tot Γ fa (.bool b1)) (hb : TotB Γ fb (.bool b2)) (k : J Γ (K (.b (.fr (.bool (b1 && b2))))) m po) : J Γ (cX (fAndV fa fb) K) m po := k.to fun e he => by
  obtain ⟨o, e1, h1, h2, h3⟩ := ha.run he
  obtain ⟨e2, h4, h5⟩ := hb.run h3
  cases b1 with
  | true =>
    refine ⟨e2, h5, ?_⟩
    show bndS (bnd (fa e) fun o e1 => match res e1 o with
      | some (.bool true) => fb e1
      | some (.bool false) => okD (.bool false) e1
      | _ => none) K = _
    rw [h1]
    show bndS (match res e1 o with
      | some (.bool true) => fb e1
      | some (.bool false) => okD (.bool false) e1
      | _ => none) K = _
    rw [h2]
    show bndS (fb e1) K = _
    rw [h4]
    rfl
  | false =>
    refine ⟨e1, h3, ?_⟩
    show bndS (bnd (fa e) fun o e1 => match res e1 o with
      | some (.bool true) => fb e1
      | some (.bool false) => okD (.bool false) e1
      | _ => none) K = _
    rw [h1]
    show bndS (match res e1 o with
      | some (.bool true) => fb e1
      | some (.bool false) => okD (.bool false) e1
      | _ => none) K = _
    rw [h2]
    rfl
def cAndV (o : O) (fb : FE) (K : O → KC) : KC := fun e => match res e o with
  | some (.bool true) => bndS (fb e) K
  | some (.bool false) => K (.b (.fr (.bool false))) e
  | _ => none
theorem j_andVC (k : J Γ (cX fa fun o => cAndV o fb K) m po) : J Γ (cX (fAndV fa fb) K) m po := k.eq (funext fun e => by
  show bndS (bnd (fa e) fun o e1 => match res e1 o with
    | some (.bool true) => fb e1
    | some (.bool false) => okD (.bool false) e1
    | _ => none) K = _
  rw [bndS_bnd]
  refine congrArg _ (funext fun a => funext fun e1 => ?_)
  unfold cAndV
  cases res e1 a with
  | none => rfl
  | some d =>
    cases d with
    | bool b => cases b <;> rfl
    | _ => rfl)
theorem j_andV2 {b : Bool} {m1 m2 : R α} (h : Rd Γ o (.bool b)) (h1 : J Γ (cX fb K) m1 po) (h2 : J Γ (K (.b (.fr (.bool false)))) m2 po) : J Γ (cAndV o fb K) (if b = true then m1 else m2) po := by
  cases b with
  | true =>
    rw [if_pos rfl]
    exact h1.to fun e he => ⟨e, he, by unfold cAndV; rw [h e he]; rfl⟩
  | false =>
    rw [if_neg (by decide)]
    exact h2.to fun e he => ⟨e, he, by unfold cAndV; rw [h e he]⟩
/-- x[k] = v at a known place -/
theorem j_putI0 {k : Int} {ds : List PyData} {y : PyData} (h : Γ[i]? = some (some (.o (.list ds)))) (ho : Rd Γ o (.int k)) (hr : (ixN ds.length k).map (fun j => PyData.list (ds.set j x)) = some y) (kk : J (Γ.set i (some (.o y))) C m po) : J Γ (cPutI i o x C) m po := kk.to fun e he => by
  cases q : ixN ds.length k with
  | none => rw [q] at hr; cases hr
  | some j =>
    rw [q] at hr
    have h2 : PyData.list (ds.set j x) = y := Option.some.inj hr
    refine ⟨e.set i (some (.ow (ds.set j x))), he.set (s := .o y) (by rw [← h2]; rfl), ?_⟩
    unfold cPutI
    rw [ho e he, he.own h]
    show (ixN ds.length k).bind _ = _
    rw [q]
    rfl
theorem j_chain3 {g h : PyData → PyData → Option B} {b1 b2 : Bool} {xv : PyData} (h1 : Rd Γ o1 x) (h2 : Rd Γ o2 y) (hg : g x y = some (.fr (.bool b1))) (hc : Tot Γ fc xv) (hh : h y xv = some (.fr (.bool b2))) (k : J Γ (K (.b (.fr (.bool (b1 && b2))))) m po) : J Γ (cCh g h o1 o2 fc K) m po := j_chain2 h1 h2 hg hc hh k
end TM
set_option maxRecDepth 100000
namespace TM
open PySem L2 VL PySem.W PySem.SeqAt Datum
section
variable {a b : Int}
theorem x_add : oAdd (toD a) (toD b) = some (.fr (toD (a + b))) := rfl
theorem x_sub : oSub (toD a) (toD b) = some (.fr (toD (a - b))) := rfl
theorem x_mul (h : cMul a b = true) : oMul (toD a) (toD b) = some (.fr (toD (a * b))) := by
  show (if cMul a b = true then some (B.fr (.int (a * b))) else none) = _
  rw [if_pos h]
  rfl
theorem cmul_l (h : decide (a.natAbs < 2 ^ 64) = true) : cMul a b = true := by unfold cMul; rw [h]; rfl
theorem cmul_r (h : decide (b.natAbs < 2 ^ 64) = true) : cMul a b = true := by unfold cMul; rw [h, Bool.or_true]
def mulI (a b : Int) : Option Int := if cMul a b = true then some (a * b) else none
theorem x_mulR : OpR oMul (toD a) (toD b) (mulI a b) fun z => .fr (toD z) := fun z hz => by
  unfold mulI at hz
  split at hz
  · rename_i h; cases hz; exact x_mul h
  · cases hz
theorem x_mod (h : decide (0 < b) = true) : oMod (toD a) (toD b) = some (.fr (toD (a % b))) := by
  show (if decide (0 < b) = true then some (B.fr (.int (a % b))) else none) = _
  rw [if_pos h]
  rfl
def modI (a b : Int) : Option Int := if decide (0 < b) = true then some (a % b) else none
theorem x_modR : OpR oMod (toD a) (toD b) (modI a b) fun z => .fr (toD z) := fun z hz => by
  unfold modI at hz
  split at hz
  · rename_i h; cases hz; exact x_mod h
  · cases hz
theorem x_fdiv (h : cFdiv a b = true) : opI cFdiv (fun i j => i / j) (toD a) (toD b) = some (.fr (toD (a / b))) := by
  show (if cFdiv a b = true then some (B.fr (.int (a / b))) else none) = _
  rw [if_pos h]
  rfl
theorem cfdiv_r (h : (decide (0 < b) && decide (b.natAbs < 2 ^ 200)) = true) : cFdiv a b = true := h
def fdivI (a b : Int) : Option Int := if cFdiv a b = true then some (a / b) else none
theorem x_fdivR : OpR (opI cFdiv fun i j => i / j) (toD a) (toD b) (fdivI a b) fun z => .fr (toD z) := fun z hz => by
  unfold fdivI at hz
  split at hz
  · rename_i h; cases hz; exact x_fdiv h
  · cases hz
theorem x_pow (h : cPow a b = true) : oPow (toD a) (toD b) = some (.fr (toD (a ^ b.toNat))) := by
  show (if cPow a b = true then some (B.fr (.int (a ^ b.toNat))) else none) = _
  rw [if_pos h]
  rfl
def shlI (a b : Int) : Option Int := if cPow a b = true then some (a * 2 ^ b.toNat) else none
theorem x_shlR : OpR oShl (toD a) (toD b) (shlI a b) fun z => .fr (toD z) := fun z hz => by
  unfold shlI at hz
  split at hz
  · rename_i h; cases hz
    show (if cPow a b = true then some (B.fr (.int (a * 2 ^ b.toNat))) else none) = _
    rw [if_pos h]
    rfl
  · cases hz
def shrI (a b : Int) : Option Int := if decide (0 ≤ b) = true then some (a / 2 ^ b.toNat) else none
theorem x_shrR : OpR oShr (toD a) (toD b) (shrI a b) fun z => .fr (toD z) := fun z hz => by
  unfold shrI at hz
  split at hz
  · rename_i h; cases hz
    show (if decide (0 ≤ b) = true then some (B.fr (.int (a / 2 ^ b.toNat))) else none) = _
    rw [if_pos h]
    rfl
  · cases hz
theorem x_band : oAnd (toD a) (toD b) = some (.fr (toD (Builtin.bitAnd a b))) := rfl
theorem x_bor : oOr (toD a) (toD b) = some (.fr (toD (Builtin.bitOr a b))) := rfl
theorem x_neg : oNeg (toD a) = some (.fr (toD (-a))) := rfl
theorem x_lt : oLt (toD a) (toD b) = some (.fr (toD (decide (a < b)))) := rfl
theorem x_le : oLe (toD a) (toD b) = some (.fr (toD (decide (a ≤ b)))) := rfl
theorem x_gt : oGt (toD a) (toD b) = some (.fr (toD (decide (b < a)))) := rfl
theorem x_ge : oGe (toD a) (toD b) = some (.fr (toD (decide (b ≤ a)))) := rfl
def max2 (a b : Int) : Int := if b > a then b else a
def min2 (a b : Int) : Int := if b < a then b else a
theorem x_max2 : gMax [toD a, toD b] = some (.fr (toD (max2 a b))) := rfl
theorem x_min2 : gMin [toD a, toD b] = some (.fr (toD (min2 a b))) := rfl
def absI (a : Int) : Int := if a < 0 then -a else a
theorem x_abs : gAbs [toD a] = some (.fr (toD (absI a))) := rfl
def b2i (b : Bool) : Int := if b then 1 else 0
theorem x_intB {b : Bool} : gInt [toD b] = some (.fr (toD (b2i b))) := rfl
end
section
variable {τ : Type} [DecidableEq τ] [Datum τ] {x y : τ} {xs ys : List τ} {i : Int}
/-- alike, where it may be asked -/
def eqG (x y : τ) : Option Bool := if (shaped (toD x) && shaped (toD y)) = true then some (decide (x = y)) else isE (toD x) (toD y)
theorem x_eqG : OpR oEq (toD x) (toD y) (eqG x y) fun b => .fr (toD b) := fun z hz => by
  unfold eqG at hz
  unfold oEq
  split at hz
  · rename_i h
    rw [Bool.and_eq_true] at h
    cases hz
    rw [if_pos ⟨h.1, h.2⟩, Datum.eqv]
    rfl
  · rename_i h
    rw [Bool.and_eq_true] at h
    rw [if_neg h, hz]
    rfl
theorem x_eq [Lay τ] : oEq (toD x) (toD y) = some (.fr (toD (decide (x = y)))) := o_eq x y
theorem atI_map' {β γ : Type} (f : β → γ) (xs : List β) (i : Int) : atI (xs.map f) i = (atI xs i).map f := by
  unfold atI
  rw [List.length_map]
  cases ixN xs.length i with
  | none => rfl
  | some j => rw [Option.bind_some, Option.bind_some, List.getElem?_map]
theorem x_ix : OpR oIx (toD xs) (toD i) (atI xs i) fun z => .fr (toD z) := fun z hz => by
  show (atI (xs.map toD) i).map B.fr = _
  rw [atI_map', hz]
  rfl
def addL (xs ys : List τ) : Option (List τ) := if xs.length + ys.length ≤ big then some (xs ++ ys) else none
theorem x_addL : OpR oAdd (toD xs) (toD ys) (addL xs ys) fun z => bow (toD z) := fun z hz => by
  unfold addL at hz
  split at hz
  · rename_i h
    cases hz
    show (if (xs.map toD).length + (ys.map toD).length ≤ big then some (B.ow (xs.map toD ++ ys.map toD)) else none) = _
    rw [List.length_map, List.length_map, if_pos h, ← List.map_append]
    rfl
  · cases hz
def mulL (xs : List τ) (k : Int) : Option (List τ) := if k.natAbs < 2 ^ 63 ∧ xs.length * k.toNat ≤ big then some (List.replicate k.toNat xs).flatten else none
theorem x_mulL : OpR oMul (toD xs) (toD i) (mulL xs i) fun z => bow (toD z) := fun z hz => by
  unfold mulL at hz
  split at hz
  · rename_i h
    cases hz
    show (if i.natAbs < 2 ^ 63 ∧ (xs.map toD).length * i.toNat ≤ big then some (B.ow (List.replicate i.toNat (xs.map toD)).flatten) else none) = _
    rw [List.length_map, if_pos h]
    show _ = some (B.ow (List.map toD (List.replicate i.toNat xs).flatten))
    rw [List.map_flatten, List.map_replicate]
  · cases hz
theorem cut_map {α β : Type} (f : α → β) (xs : List α) (lo hi : Option Int) : cutD (xs.map f) lo hi = (cutD xs lo hi).map f := by
  unfold cutD
  rw [List.length_map, ← List.map_drop, ← List.map_take]
theorem x_sl {lo hi : Option Int} : oSl (toD xs) lo hi = some (bow (toD (cutD xs lo hi))) := by
  show some (B.ow (cutD (xs.map toD) lo hi)) = _
  rw [cut_map]
  rfl
theorem x_len : gLen [toD xs] = some (.fr (toD (xs.length : Int))) := by
  show some (B.fr (.int ((xs.map toD).length : Nat))) = _
  rw [List.length_map]
  rfl
theorem x_tuple : gTuple [toD xs] = some (.fr (toD (Tup.mk xs))) := rfl
def appL (xs : List τ) (v : τ) : Option (List τ) := if xs.length < big then some (xs ++ [v]) else none
theorem x_app (a : List τ) (h : appL xs x = some a) : mAppend (xs.map toD) [toD x] = some (.fr .none, a.map toD) := by
  unfold appL at h
  split at h
  · rename_i hl
    cases h
    show (if (xs.map toD).length < big then some (B.fr .none, xs.map toD ++ [toD x]) else none) = _
    rw [List.length_map, if_pos hl, List.map_append]
    rfl
  · cases h
end
section
variable {xs : List Int} {i v : Int}
theorem asInts_D : asInts (xs.map toD) = some xs := asInts_map xs
theorem x_sum : gSum [toD xs] = some (.fr (toD xs.sum)) := by
  show (asInts (xs.map toD)).map (fun ns => B.fr (.int ns.sum)) = _
  rw [asInts_D]
  rfl
/-- xs with v more at i -/
def augL (xs : List Int) (i v : Int) : Option (List Int) := (ixN xs.length i).bind fun j => (xs[j]?).map fun old => xs.set j (old + v)
theorem x_augL (a : List Int) (h : augL xs i v = some a) : ∃ j old z, ixN (xs.map toD).length i = some j ∧ (xs.map toD)[j]? = some old ∧ (opI0 fun i j => i + j) old (toD v) = some (.fr z) ∧ PyData.list ((xs.map toD).set j z) = toD a := by
  unfold augL at h
  rw [List.length_map]
  cases q : ixN xs.length i with
  | none => rw [q] at h; cases h
  | some j =>
    rw [q, Option.bind_some] at h
    cases q2 : xs[j]? with
    | none => rw [q2] at h; cases h
    | some old =>
      rw [q2] at h
      cases h
      refine ⟨j, toD old, toD (old + v), rfl, by rw [List.getElem?_map, q2]; rfl, rfl, ?_⟩
      show _ = PyData.list ((xs.set j (old + v)).map toD)
      rw [List.map_set]
end
end TM
set_option maxRecDepth 100000
namespace TM
open PySem L2 VL PySem.W PySem.SeqAt Datum
variable {Γ Γ' : Ctx} {α β : Type} {m : R α} {po : α → PO} {K : O → KC} {o : O} {fa : FE} {F : Fn}
def cInT (neg : Bool) (ss : List Str) (o : O) (K : O → KC) : KC := fun e => match res e o with
  | some (.str s) => K (.b (.fr (.bool (if neg then !decide (s ∈ ss) else decide (s ∈ ss))))) e
  | _ => none
theorem j_inT {neg : Bool} {ss : List Str} (k : J Γ (cX fa fun o => cInT neg ss o K) m po) : J Γ (cX (fInT neg ss fa) K) m po := k.eq (funext fun e => by
  show bndS (bnd (fa e) fun o e1 => match res e1 o with
    | some (.str s) => okD (.bool (if neg then !decide (s ∈ ss) else decide (s ∈ ss))) e1
    | _ => none) K = _
  rw [bndS_bnd]
  refine congrArg _ (funext fun a => funext fun e1 => ?_)
  unfold cInT
  split <;> rfl)
theorem j_inT2 {neg : Bool} {ss : List Str} {s : Str} (h : Rd Γ o (.str s)) (k : J Γ (K (.b (.fr (.bool (if neg then !decide (s ∈ ss) else decide (s ∈ ss)))))) m po) : J Γ (cInT neg ss o K) m po := k.to fun e he => ⟨e, he, by
  unfold cInT
  rw [h e he]⟩
end TM
set_option maxRecDepth 100000
namespace TM
open PySem L2 VL PySem.W PySem.SeqAt Datum
class KeyT (κ : Type) [DecidableEq κ] [Datum κ] : Prop where
  isK : ∀ a : κ, isK (toD a) = true
  keq : ∀ a b : κ, keq (toD a) (toD b) = decide (a = b)
instance : KeyT Int := ⟨fun _ => rfl, fun _ _ => rfl⟩
instance : KeyT Str := ⟨fun _ => rfl, fun _ _ => rfl⟩
section
variable {κ υ : Type} [DecidableEq κ] [Datum κ] [DecidableEq υ] [Datum υ]
/-- a dict's entries as data -/
def eD (p : κ × υ) : PyData × PyData := (toD p.1, toD p.2)
def dD (l : List (κ × υ)) : PyData := .dict (l.map eD)
def lookT (l : List (κ × υ)) (k : κ) : Option υ := (l.find? fun p => decide (p.1 = k)).map (·.2)
def putT (l : List (κ × υ)) (k : κ) (v : υ) : List (κ × υ) := if (l.any fun p => decide (p.1 = k)) = true then l.map (fun p => if p.1 = k then (p.1, v) else p) else l ++ [(k, v)]
def mergeT (l : List (κ × υ)) : List (κ × υ) := l.foldl (fun acc p => putT acc p.1 p.2) []
def putG (l : List (κ × υ)) (k : κ) (v : υ) : Option (List (κ × υ)) := if l.length < big then some (putT l k v) else none
variable [KeyT κ] {l : List (κ × υ)} {k : κ} {v : υ}
theorem look_eD (l : List (κ × υ)) (k : κ) : lookD (l.map eD) (toD k) = (lookT l k).map toD := by
  unfold lookD lookT
  induction l with
  | nil => rfl
  | cons p l ih =>
    rw [List.map_cons, List.find?_cons, List.find?_cons]
    show Option.map _ (match keq (toD p.1) (toD k) with
      | true => some (eD p)
      | false => _) = _
    rw [KeyT.keq]
    cases decide (p.1 = k) with
    | true => rfl
    | false => exact ih
theorem any_eD (l : List (κ × υ)) (k : κ) : ((l.map eD).any fun p => keq p.1 (toD k)) = l.any fun p => decide (p.1 = k) := by
  induction l with
  | nil => rfl
  | cons p l ih =>
    rw [List.map_cons, List.any_cons, List.any_cons, ih]
    show (keq (toD p.1) (toD k) || _) = _
    rw [KeyT.keq]
theorem put_eD (l : List (κ × υ)) (k : κ) (v : υ) : putD (l.map eD) (toD k) (toD v) = (putT l k v).map eD := by
  unfold putD putT
  rw [any_eD]
  split
  · rw [List.map_map, List.map_map]
    refine List.map_congr_left fun p _ => ?_
    show (if keq (toD p.1) (toD k) = true then ((eD p).1, toD v) else eD p) = eD (if p.1 = k then (p.1, v) else p)
    rw [KeyT.keq]
    by_cases h : p.1 = k
    · rw [if_pos (decide_eq_true h), if_pos h]; rfl
    · rw [if_neg (by rw [decide_eq_false h]; decide), if_neg h]
  · rw [List.map_append]
    rfl
theorem merge_eD (l : List (κ × υ)) : mergeD [] (l.map eD) = (mergeT l).map eD := by
  have key : ∀ (l acc : List (κ × υ)), mergeD (acc.map eD) (l.map eD) = (l.foldl (fun acc p => putT acc p.1 p.2) acc).map eD := by
    intro l
    induction l with
    | nil => intro acc; rfl
    | cons p l ih =>
      intro acc
      show mergeD (putD (acc.map eD) (toD p.1) (toD p.2)) (l.map eD) = _
      rw [put_eD, ih]
      rfl
  exact key l []
theorem x_dix : OpR oDix (dD l) (toD k) (lookT l k) fun z => .fr (toD z) := fun z hz => by
  show (if isK (toD k) = true then (lookD (l.map eD) (toD k)).map B.fr else none) = _
  rw [if_pos (KeyT.isK k), look_eD, hz]
  rfl
end
variable {Γ Γ' : Ctx} {α β : Type} {m : R α} {po : α → PO} {K : O → KC} {o o1 o2 o3 : O} {fa fk fv fx : FE} {rest : FS} {x y : PyData} {i : Nat} {C : KC}
variable {κ υ : Type} [DecidableEq κ] [Datum κ] [DecidableEq υ] [Datum υ] [KeyT κ]
theorem j_dnew (k : J Γ (K (.b (bow (dD ([] : List (κ × υ)))))) m po) : J Γ (cX fDNew K) m po := k
def cKey (o : O) (K : PyData → KC) : KC := fun e => (res e o).bind fun k => if isK k = true then K k e else none
theorem j_key {K : PyData → KC} (h : Rd Γ o x) (hk : isK x = true) (k : J Γ (K x) m po) : J Γ (cKey o K) m po := k.to fun e he => ⟨e, he, by
  show (res e o).bind _ = _
  rw [h e he, Option.bind_some, if_pos hk]⟩
theorem j_pnil {K : DKv → KC} (k : J Γ (K []) m po) : J Γ (cX (dPairs []) K) m po := k
theorem j_pcons {K : DKv → KC} {r : List (FE × FE)} (k : J Γ (cX fk fun o => cKey o fun kd => cX fv fun o2 => cFz o2 fun d => cX (dPairs r) fun ps => K ((kd, d) :: ps)) m po) : J Γ (cX (dPairs ((fk, fv) :: r)) K) m po := k.eq (funext fun e => by
  show bndS (dPairs ((fk, fv) :: r) e) K = _
  unfold dPairs
  rw [bndS_bnd]
  refine congrArg _ (funext fun a => funext fun e1 => ?_)
  rw [bndS_ob]
  unfold cKey
  refine congrArg _ (funext fun kd => ?_)
  split
  · rw [bndS_bnd]
    refine congrArg _ (funext fun a => funext fun e2 => ?_)
    rw [bndS_ob]
    refine congrArg _ (funext fun p => ?_)
    rw [bndS_bnd]
    rfl
  · rfl)
def cDisp (ds : DKv) (K : O → KC) : KC := fun e => if ds.length ≤ 15 then K (.b (.od (mergeD [] ds))) e else none
theorem j_disp {rs : List (FE × FE)} (k : J Γ (cX (dPairs rs) fun ds => cDisp ds K) m po) : J Γ (cX (fDisp rs) K) m po := k.eq (funext fun e => by
  show bndS (bnd (dPairs rs e) fun ds e1 => if ds.length ≤ 15 then some (Out.ok (O.b (.od (mergeD [] ds))) e1) else none) K = _
  rw [bndS_bnd]
  refine congrArg _ (funext fun a => funext fun e1 => ?_)
  unfold cDisp
  split <;> rfl)
theorem j_disp2 {ds : DKv} (l : List (κ × υ)) (hx : ds = l.map eD) (h : decide (ds.length ≤ 15) = true) (k : J Γ (K (.b (bow (dD (mergeT l))))) m po) : J Γ (cDisp ds K) m po := k.to fun e he => ⟨e, he, by
  show (if ds.length ≤ 15 then K (.b (.od (mergeD [] ds))) e else none) = _
  rw [if_pos (of_decide_eq_true h), hx, merge_eD]
  rfl⟩
def cPutD (i : Nat) (o : O) (d : PyData) (C : KC) : KC := fun e => match res e o, at? e i with
  | some k, some (.od ds) => if isK k = true ∧ ds.length < big then C (e.set i (some (.od (putD ds k d)))) else none
  | _, _ => none
theorem putAtD_eq {C : KC} : (fun e => bndS (putAtD i fx x e) fun _ => C) = cHas i (cX fx fun o => cPutD i o x C) := funext fun e => by
  show bndS (match at? e i with
    | none => none
    | some _ => bnd (fx e) fun o e1 => match res e1 o, at? e1 i with
      | some k, some (.od ds) => if isK k = true ∧ ds.length < big then some (Out.ok () (e1.set i (some (.od (putD ds k x))))) else none
      | _, _ => none) _ = _
  unfold cHas
  cases q : at? e i with
  | none => rfl
  | some b =>
    dsimp only
    rw [bndS_bnd]
    refine congrArg _ (funext fun a => funext fun e1 => ?_)
    unfold cPutD
    split
    · split <;> rfl
    · rfl
theorem j_putD (k : J Γ (cX fv fun o => cFz o fun d => cHas i (cX fx fun o => cPutD i o d rest)) m po) : J Γ (sSeq (sPutD i fx fv) rest) m po := k.eq (funext fun e => by
  show thn (bndS (fv e) fun o e1 => (fz e1 o).bind fun p => bndS (putAtD i fx p.1 p.2) fun _ e2 => some (.nx e2)) rest = _
  rw [thn_bndS]
  refine congrArg _ (funext fun a => funext fun e1 => ?_)
  rw [thn_ob]
  refine congrArg _ (funext fun p => ?_)
  rw [thn_bndS]
  exact congrFun putAtD_eq p.2)
theorem j_putDop {l : List (κ × υ)} {k : κ} {v : υ} {mk : List (κ × υ) → R α} (h : Γ[i]? = some (some (.o (dD l)))) (ho : Rd Γ o (toD k)) (kk : ∀ a, J (Γ.set i (some (.o (dD a)))) C (mk a) po) : J Γ (cPutD i o (toD v) C) (ob (putG l k v) mk) po := j_ob fun a ha => (kk a).to fun e he => by
  unfold putG at ha
  split at ha
  · rename_i hl
    cases ha
    refine ⟨e.set i (some (.od (putD (l.map eD) (toD k) (toD v)))), he.set (s := .o (dD (putT l k v))) (by rw [put_eD]; rfl), ?_⟩
    unfold cPutD
    rw [ho e he, he.own h]
    show (if isK (toD k) = true ∧ (l.map eD).length < big then C (e.set i (some (.od (putD (l.map eD) (toD k) (toD v))))) else none) = _
    rw [if_pos ⟨KeyT.isK k, by rw [List.length_map]; exact hl⟩]
  · cases ha
def cDIs (o : O) (C : KC) : KC := fun e => match res e o with
  | some (.dict _) => C e
  | _ => none
def cDGet2 (o1 o2 o3 : O) (K : O → KC) : KC := fun e => match res e o1, res e o2, res e o3 with
  | some (.dict ds), some k, some dv => if isK k = true ∧ isFlat dv = true then K (.b (.fr ((lookD ds k).getD dv))) e else none
  | _, _, _ => none
theorem j_dget2 (k : J Γ (cX fa fun o1 => cDIs o1 (cX fk fun o2 => cX fv fun o3 => cDGet2 o1 o2 o3 K)) m po) : J Γ (cX (fDGet2 fa fk fv) K) m po := k.eq (funext fun e => by
  show bndS (bnd (fa e) fun o1 e1 => match res e1 o1 with
    | some (.dict _) => bnd (fk e1) fun o2 e2 => bnd (fv e2) fun o3 e3 => match res e3 o1, res e3 o2, res e3 o3 with
      | some (.dict ds), some k, some dv => if isK k = true ∧ isFlat dv = true then okD ((lookD ds k).getD dv) e3 else none
      | _, _, _ => none
    | _ => none) K = _
  rw [bndS_bnd]
  refine congrArg _ (funext fun a => funext fun e1 => ?_)
  unfold cDIs
  split
  · rw [bndS_bnd]
    refine congrArg _ (funext fun _ => funext fun _ => ?_)
    rw [bndS_bnd]
    refine congrArg _ (funext fun _ => funext fun _ => ?_)
    unfold cDGet2
    split
    · split <;> rfl
    · rfl
  · rfl)
theorem j_dis {l : List (κ × υ)} (h : Rd Γ o (dD l)) (k : J Γ C m po) : J Γ (cDIs o C) m po := k.to fun e he => ⟨e, he, by
  unfold cDIs
  rw [h e he]
  rfl⟩
theorem j_dget2op {l : List (κ × υ)} {k : κ} {v : υ} (h1 : Rd Γ o1 (dD l)) (h2 : Rd Γ o2 (toD k)) (h3 : Rd Γ o3 (toD v)) (hf : isFlat (toD v) = true) (kk : J Γ (K (.b (.fr (toD ((lookT l k).getD v))))) m po) : J Γ (cDGet2 o1 o2 o3 K) m po := kk.to fun e he => ⟨e, he, by
  unfold cDGet2
  rw [h1 e he, h2 e he, h3 e he]
  show (if isK (toD k) = true ∧ isFlat (toD v) = true then K (.b (.fr ((lookD (l.map eD) (toD k)).getD (toD v)))) e else none) = _
  rw [if_pos ⟨KeyT.isK k, hf⟩, look_eD]
  cases lookT l k <;> rfl⟩
end TM
set_option maxRecDepth 100000
namespace TM
open PySem L2 VL PySem.W Datum
end TM
set_option maxRecDepth 100000
namespace TM
open PySem L2 VL PySem.W Datum
variable {κ υ : Type} [DecidableEq κ] [Datum κ] [DecidableEq υ] [Datum υ] {l : List (κ × υ)}
theorem x_vals : oVals (dD l) = some (bow (toD (l.map (·.2)))) := by
  show some (B.ow ((l.map eD).map (·.2))) = some (B.ow ((l.map (fun q : κ × υ => q.2)).map toD))
  rw [List.map_map, List.map_map]
  rfl
theorem x_items : oItems (dD l) = some (bow (toD l)) := by
  show some (B.ow ((l.map eD).map fun q => .tuple [q.1, q.2])) = some (B.ow (l.map toD))
  rw [List.map_map]
  rfl
end TM
set_option maxRecDepth 100000
namespace TM
open PySem L2 VL PySem.W Datum
end TM
namespace TM
open PySem L2 VL PySem.W Datum
end TM
set_option maxRecDepth 100000
namespace TM
open PySem L2 VL PySem.W Datum PyProof.Rows
/-- a not behind b -/
def leL (a b : List Int) : Bool := dle (toD a) (toD b)
def ltP : List Int → List Int → Bool
  | [], [] => false
  | [], _ :: _ => true
  | _ :: _, [] => false
  | x :: xs, y :: ys => if x = y then ltP xs ys else decide (x < y)
theorem dataLt_ltP : ∀ a b : List Int, dataLt (toD a) (toD b) = ltP a b := by
  have key : ∀ a b : List Int, PyProof.Rows.lexLt itemOrd (keyToksAll (a.map PyData.int)) (keyToksAll (b.map PyData.int)) = ltP a b := by
    intro a
    induction a with
    | nil => intro b; cases b <;> rfl
    | cons x a ih =>
      intro b
      cases b with
      | nil => rfl
      | cons y b =>
        have hal : alike (.int x) (.int y) = true := rfl
        by_cases e : x = y
        · have := dataLt_all_yes (xs := a.map PyData.int) (ys := b.map PyData.int) hal (by subst e; simp [PyData.eqv])
          rw [List.map_cons, List.map_cons, this, ih]
          show _ = if x = y then ltP a b else decide (x < y)
          rw [if_pos e]
        · have := dataLt_all_no (xs := a.map PyData.int) (ys := b.map PyData.int) hal (by simp [PyData.eqv, e])
          rw [List.map_cons, List.map_cons, this, dataLt_int]
          show _ = if x = y then ltP a b else decide (x < y)
          rw [if_neg e]
  intro a b
  show dataLt (.list (a.map PyData.int)) (.list (b.map PyData.int)) = _
  rw [dataLt_list]
  exact key a b
theorem leL_iff (a b : List Int) : leL a b = !ltP b a := by
  show (!dataLt (toD b) (toD a)) = _
  rw [dataLt_ltP]
theorem ltP_irr : ∀ a : List Int, ltP a a = false
  | [] => rfl
  | x :: a => by
    show (if x = x then ltP a a else decide (x < x)) = false
    rw [if_pos rfl, ltP_irr a]
theorem ltP_total : ∀ a b : List Int, ltP a b = false → ltP b a = false → a = b
  | [], [], _, _ => rfl
  | [], _ :: _, h, _ => by cases h
  | _ :: _, [], _, h => by cases h
  | x :: a, y :: b, h1, h2 => by
    have h1' : (if x = y then ltP a b else decide (x < y)) = false := h1
    have h2' : (if y = x then ltP b a else decide (y < x)) = false := h2
    by_cases e : x = y
    · subst e
      rw [if_pos rfl] at h1' h2'
      rw [ltP_total a b h1' h2']
    · rw [if_neg e] at h1'
      rw [if_neg (fun z => e z.symm)] at h2'
      have := of_decide_eq_false h1'
      have := of_decide_eq_false h2'
      omega
theorem ltP_trans : ∀ a b c : List Int, ltP a b = true → ltP b c = true → ltP a c = true
  | [], _, [], h1, h2 => by
    rename_i b
    cases b with
    | nil => cases h1
    | cons y b => cases h2
  | [], _, _ :: _, _, _ => rfl
  | _ :: _, [], _, h, _ => by cases h
  | _ :: _, _ :: _, [], _, h => by cases h
  | x :: a, y :: b, z :: c, h1, h2 => by
    have h1' : (if x = y then ltP a b else decide (x < y)) = true := h1
    have h2' : (if y = z then ltP b c else decide (y < z)) = true := h2
    show (if x = z then ltP a c else decide (x < z)) = true
    by_cases e1 : x = y
    · subst e1
      rw [if_pos rfl] at h1'
      by_cases e2 : x = z
      · rw [if_pos e2] at h2' ⊢
        exact ltP_trans a b c h1' h2'
      · rw [if_neg e2] at h2' ⊢
        exact h2'
    · rw [if_neg e1] at h1'
      have l1 := of_decide_eq_true h1'
      by_cases e2 : y = z
      · subst e2
        rw [if_neg e1]
        exact h1'
      · rw [if_neg e2] at h2'
        have l2 := of_decide_eq_true h2'
        rw [if_neg (by omega)]
        exact decide_eq_true (by omega)
theorem ltP_asym {a b : List Int} (h : ltP a b = true) : ltP b a = false := by
  cases q : ltP b a with
  | false => rfl
  | true =>
    have := ltP_trans a b a h q
    rw [ltP_irr] at this
    cases this
theorem leL_total (a b : List Int) : (leL a b || leL b a) = true := by
  rw [leL_iff, leL_iff]
  cases q : ltP b a with
  | false => rfl
  | true => rw [ltP_asym q]; rfl
theorem leL_anti {a b : List Int} (h1 : leL a b = true) (h2 : leL b a = true) : a = b := by
  rw [leL_iff] at h1 h2
  exact ltP_total a b (by simpa using h2) (by simpa using h1)
theorem leL_trans (a b c : List Int) (h1 : leL a b = true) (h2 : leL b c = true) : leL a c = true := by
  rw [leL_iff] at h1 h2 ⊢
  have h1 : ltP b a = false := by simpa using h1
  have h2 : ltP c b = false := by simpa using h2
  cases q : ltP c a with
  | false => rfl
  | true =>
    by_cases e : a = b
    · subst e; rw [h2] at q; cases q
    · have : ltP a b = true := by
        cases z : ltP a b with
        | true => rfl
        | false => exact absurd (ltP_total a b z h1) e
      rw [ltP_trans c a b q this] at h2
      cases h2
/-- a list that stands in order is what sorting tells of any rearrangement of it -/
theorem sortL_of {a b : List (List Int)} (p : a.Perm b) (hb : b.Pairwise fun x y => ltP x y = true) : a.mergeSort leL = b := by
  refine ((List.mergeSort_perm a leL).trans p).eq_of_pairwise (fun x y _ _ h1 h2 => leL_anti h1 h2) (List.pairwise_mergeSort leL_trans leL_total a) (hb.imp fun {x y} h => ?_)
  rw [leL_iff, ltP_asym h]
  rfl
end TM
set_option maxRecDepth 100000
namespace TM
open PySem L2 VL PySem.W Datum
end TM
set_option maxRecDepth 100000
namespace TM
open PySem L2 VL PySem.W Datum
end TM
set_option maxRecDepth 100000
namespace TM
open PySem L2 VL PySem.W Datum
end TM
namespace TM
open PySem L2 VL PySem.W Datum
end TM
namespace TM
open PySem L2 VL PySem.W Datum
end TM
set_option maxRecDepth 100000
namespace TM
open PySem L2 VL PySem.W Datum
instance : Lay (Option Int) := ⟨fun o => by
  cases o with
  | none => show PyData.none.canLay0 = true; rw [PyData.canLay0]
  | some i => show (PyData.int _).canLay0 = true; rw [PyData.canLay0], by decide⟩
end TM
set_option maxRecDepth 100000
namespace TM
open PySem L2 VL PySem.W Datum
theorem j_re {Γ Γ' : Ctx} {α : Type} {m : R α} {po : α → PO} {C : KC} (h : Γ = Γ') (k : J Γ' C m po) : J Γ C m po := h ▸ k
end TM
set_option maxRecDepth 100000
namespace TM
open PySem L2 VL PySem.W Datum
variable {Γ Γ' Γ1 : Ctx} {α β σ τ : Type} {m : R α} {po : α → PO} {K : O → KC} {C : KC} {o o1 o2 : O} {x y : PyData} {b z : B} {i j n t : Nat} {f fa fb fc : FE} {r : FA} {rest : FS} {F : Fn} {mi : List (Nat × Nat)}
theorem j_aT {b : B} {K : List O → KC} (k : J Γ (cX f fun o => match o with
    | .b x => cX r fun os => K (.b x :: os)
    | .s _ => fun _ => none) m po) : J Γ (cX (aT f r) K) m po := k.eq (funext fun e => by
  show bndS (bnd (f e) fun o e1 => match o with
    | .b x => bnd (r e1) fun os e2 => some (Out.ok (.b x :: os) e2)
    | .s _ => none) K = _
  rw [bndS_bnd]
  refine congrArg _ (funext fun a => funext fun e1 => ?_)
  cases a with
  | s i => rfl
  | b x =>
    show bndS (bnd (r e1) _) K = _
    rw [bndS_bnd]
    rfl)
def okT (Γn : Nat) (n : Nat) (mi : List (Nat × Nat)) (t : Nat) (os : List O) : Bool := slotsOkT mi t 0 os && miOk mi os && os.length == n && (mi.all fun p => decide (p.1 ≠ t) && decide (p.2 < Γn))
def newAt (t : Nat) (os : List O) : Bool := match os[t]? with
  | some (.b _) => true
  | _ => false
def cCallT (F : Fn) (n : Nat) (mi : List (Nat × Nat)) (t : Nat) (os : List O) (K : O → KC) : KC := fun e1 => if okT e1.length n mi t os = true then (if newAt t os = true then (bindO e1 os).bind fun bs => match F bs with
  | none => none
  | some (.ret b e2) => K (.b b) (putBack e2 mi e1)
  | some (.ex c e2) => some (.ex c (putBack e2 mi e1)) else none) else none
theorem j_callT (k : J Γ (cX r fun os => cCallT F n mi t os K) m po) : J Γ (cX (fCallT F n mi t r) K) m po := k.eq (funext fun e => by
  show bndS (bnd (r e) fun os e1 => if (slotsOkT mi t 0 os && miOk mi os && os.length == n && (mi.all fun p => decide (p.1 ≠ t) && decide (p.2 < e1.length))) = true then match os[t]? with
    | some (.b x) => (bindO e1 os).bind fun bs => match F bs with
      | none => none
      | some (.ret b e2) => some (Out.ok (.b b) (putBack e2 mi e1))
      | some (.ex c e2) => some (Out.ex c (putBack e2 mi e1))
    | _ => none else none) K = _
  rw [bndS_bnd]
  refine congrArg _ (funext fun a => funext fun e1 => ?_)
  unfold cCallT okT newAt
  split
  · cases os : a[t]? with
    | none => rfl
    | some o =>
      cases o with
      | s i => rfl
      | b x =>
        dsimp only
        rw [if_pos rfl, bndS_ob]
        refine congrArg _ (funext fun bs => ?_)
        split <;> simp_all [bndS]
  · rfl)
theorem j_callTG {os : List O} {bs : List B} {m1 : R β} {rv : β → Sl} {ch : β → List (Nat × Sl)} {mk : β → R α} (h0 : okT Γ.length n mi t os = true) (h9 : newAt t os = true) (h1 : BdA Γ os bs) (hF : FnS F bs m1 rv ch) (k : ∀ a b, (rv a).ok (some b) → J (TM.back mi (ch a) Γ) (K (.b b)) (mk a) po) : J Γ (cCallT F n mi t os K) (m1.bind mk) po := fun e he => by
  have hC : cCallT F n mi t os K e = match F bs with
    | none => none
    | some (.ret b e2) => K (.b b) (putBack e2 mi e)
    | some (.ex c e2) => some (.ex c (putBack e2 mi e)) := by
    unfold cCallT
    rw [he.len, if_pos h0, if_pos h9, h1 e he]
    rfl
  rw [hC]
  unfold FnS at hF
  cases m1 with
  | no => trivial
  | ex c =>
    obtain ⟨e2, q⟩ := hF
    rw [q]
    exact ⟨_, rfl⟩
  | ok a =>
    obtain ⟨b, e2, q, q2, q3⟩ := hF
    rw [q]
    exact k a b q2 _ (he.back q3 mi)
theorem j_callTF {os : List O} {bs : List B} {m1 : R β} {xr : β → PyData} {ch : β → List (Nat × Sl)} {mk : β → R α} {Γb : β → Ctx} (h0 : okT Γ.length n mi t os = true) (h9 : newAt t os = true) (h1 : BdA Γ os bs) (hF : FnS F bs m1 (fun a => .d (xr a)) ch) (hs : ∀ a, solid (xr a) = true) (hb : ∀ a, TM.back mi (ch a) Γ = Γb a) (k : ∀ a, J (Γb a) (K (.b (.fr (xr a)))) (mk a) po) : J Γ (cCallT F n mi t os K) (m1.bind mk) po :=
  j_callTG h0 h9 h1 hF fun a b h => by
    have := solid_fr (b := b) h (hs a)
    subst this
    rw [hb]
    exact k a
end TM
set_option maxRecDepth 100000
namespace TM
open PySem L2 VL PySem.W Datum PyProof.Rows
instance : Lay (Int × List (List Int)) := ⟨fun p => by
  show (PyData.tuple [.int p.1, toD p.2]).canLay0 = true
  rw [PyData.canLay0, PyData.canLayAll0, PyData.canLayAll0, PyData.canLayAll0, Lay.lay p.2]
  simp [PyData.canLay0], by decide⟩
instance : Lay (List (Int × List (List Int))) := ⟨lay_lst, by decide⟩
class Alk (α : Type) [DecidableEq α] [Datum α] : Prop where
  alk : ∀ a b : α, alike (Datum.toD a) (Datum.toD b) = true
instance : Alk Int := ⟨fun _ _ => rfl⟩
theorem alikeAll_map {α : Type} [DecidableEq α] [Datum α] [Alk α] : ∀ xs ys : List α, alikeAll (xs.map Datum.toD) (ys.map Datum.toD) = true
  | [], _ => by rw [List.map_nil, alikeAll]
  | _ :: _, [] => by rw [List.map_nil, List.map_cons, alikeAll]
  | x :: xs, y :: ys => by
    rw [List.map_cons, List.map_cons, alikeAll, Alk.alk x y, alikeAll_map xs ys]
    rfl
instance {α : Type} [DecidableEq α] [Datum α] [Alk α] : Alk (List α) := ⟨fun xs ys => by
  show alike (.list _) (.list _) = true
  rw [alike]
  exact alikeAll_map xs ys⟩
instance {α β : Type} [DecidableEq α] [Datum α] [Alk α] [DecidableEq β] [Datum β] [Alk β] : Alk (α × β) := ⟨fun p q => by
  show alike (.tuple [toD p.1, toD p.2]) (.tuple [toD q.1, toD q.2]) = true
  rw [alike, alikeAll, Alk.alk p.1 q.1, alikeAll, Alk.alk p.2 q.2, alikeAll]
  rfl⟩
variable {τ : Type} [DecidableEq τ] [Datum τ] [Alk τ] [Lay τ] [Lay (Int × τ)]
end TM
set_option maxRecDepth 100000
namespace TM
open PySem L2 VL PySem.W Datum PyProof.Rows
end TM
set_option maxRecDepth 100000
namespace TM
open PySem L2 VL PySem.W PySem.SeqAt
open PySem.W.Datum (toD)
end TM
set_option maxRecDepth 100000
namespace TM
open PySem L2 VL PySem.W PySem.SeqAt
open PySem.W.Datum (toD)
end TM
set_option maxRecDepth 100000
namespace TM
open PySem L2 VL PySem.W PySem.SeqAt
open PySem.W.Datum (toD)
variable {Γ Γ' Γ1 Γ2 Γl Γk : Ctx} {α β σ τ γ δ υ : Type} {m : R α} {po : α → PO} {K : O → KC} {C : KC} {F rest : FS} {l ks : List Nat}
/-- with an end within -/
def Fl.outL (g : β → R α) (k : R α) : Fl σ β → R α
  | .nx _ => k
  | .bk _ => .no
  | .rt b => g b
@[simp] theorem outL_nx {g : β → R α} {k : R α} {s : σ} : Fl.outL g k (.nx s : Fl σ β) = k := rfl
@[simp] theorem outL_rt {g : β → R α} {k : R α} {b : β} : Fl.outL g k (.rt b : Fl σ β) = g b := rfl
end TM
set_option maxRecDepth 100000
namespace TM
open PySem L2 VL PySem.W PySem.SeqAt
open PySem.W.Datum (toD)
end TM
set_option maxRecDepth 100000
namespace TM
open PySem L2 VL PySem.W PySem.SeqAt
open PySem.W.Datum (toD)
variable {Γ Γ' Γ1 : Ctx} {α β σ τ υ : Type} {m m1 m2 : R α} {po : α → PO} {K : O → KC} {C : KC} {i : Nat} {b : B} {o1 o2 : O} {x y : PyData} {fc : FE}
instance : Lay (Int × Int) := ⟨fun p => by
  obtain ⟨a, b⟩ := p
  rfl, by decide⟩
end TM
set_option maxRecDepth 100000
namespace TM
open PySem L2 VL PySem.W PySem.SeqAt
open PySem.W.Datum (toD)
end TM
set_option maxRecDepth 100000
namespace TM
open PySem L2 VL PySem.W Datum
end TM
set_option maxRecDepth 100000
namespace TM
open PySem L2 VL PySem.W Datum
end TM
set_option maxRecDepth 100000
namespace TM
open PySem L2 VL PySem.W PySem.SeqAt
open PySem.W.Datum (toD)
end TM
set_option maxRecDepth 100000
namespace TM
open PySem L2 VL PySem.W Datum
end TM
set_option maxRecDepth 100000
namespace TM
open PySem L2 VL PySem.W PySem.SeqAt
open PySem.W.Datum (toD)
end TM
set_option maxRecDepth 100000
namespace TM
open PySem L2 VL PySem.W PySem.SeqAt
open PySem.W.Datum (toD)
end TM
set_option maxRecDepth 100000
namespace TM
open PySem L2 VL PySem.W Datum
end TM
set_option maxRecDepth 100000
namespace TM
open PySem L2 VL PySem.W PySem.SeqAt
open PySem.W.Datum (toD)
end TM
set_option maxRecDepth 100000
namespace TM
open PySem L2 VL PySem.W PySem.SeqAt
open PySem.W.Datum (toD)
end TM
set_option maxRecDepth 100000
namespace TM
open PySem L2 VL PySem.W PySem.SeqAt Datum
end TM
set_option maxRecDepth 100000
namespace TM
open PySem L2 VL PySem.W PySem.SeqAt Datum
class KeyTT (κ : Type) [DecidableEq κ] [Datum κ] : Prop where
  isK : ∀ a : κ, isKT (toD a) = true
  keq : ∀ a b : κ, keqT (toD a) (toD b) = decide (a = b)
instance : KeyTT (Int × Int) := ⟨fun _ => rfl, fun a b => by
  show (decide (a.1 = b.1) && (decide (a.2 = b.2) && true)) = _
  rw [Bool.and_true, ← Bool.decide_and]
  exact decide_eq_decide.mpr ⟨fun h => Prod.ext h.1 h.2, fun h => by rw [h]; exact ⟨rfl, rfl⟩⟩⟩
section
variable {κ υ : Type} [DecidableEq κ] [Datum κ] [DecidableEq υ] [Datum υ] [KeyTT κ] {l : List (κ × υ)} {k : κ} {v : υ}
theorem look_eT (l : List (κ × υ)) (k : κ) : lookDT (l.map eD) (toD k) = (lookT l k).map toD := by
  unfold lookDT lookT
  induction l with
  | nil => rfl
  | cons p l ih =>
    rw [List.map_cons, List.find?_cons, List.find?_cons]
    show Option.map _ (match keqT (toD p.1) (toD k) with
      | true => some (eD p)
      | false => _) = _
    rw [KeyTT.keq]
    cases decide (p.1 = k) with
    | true => rfl
    | false => exact ih
theorem any_eT (l : List (κ × υ)) (k : κ) : ((l.map eD).any fun p => keqT p.1 (toD k)) = l.any fun p => decide (p.1 = k) := by
  induction l with
  | nil => rfl
  | cons p l ih =>
    rw [List.map_cons, List.any_cons, List.any_cons, ih]
    show (keqT (toD p.1) (toD k) || _) = _
    rw [KeyTT.keq]
theorem put_eT (l : List (κ × υ)) (k : κ) (v : υ) : putDT (l.map eD) (toD k) (toD v) = (putT l k v).map eD := by
  unfold putDT putT
  rw [any_eT]
  split
  · rw [List.map_map, List.map_map]
    refine List.map_congr_left fun p _ => ?_
    show (if keqT (toD p.1) (toD k) = true then ((eD p).1, toD v) else eD p) = eD (if p.1 = k then (p.1, v) else p)
    rw [KeyTT.keq]
    by_cases h : p.1 = k
    · rw [if_pos (decide_eq_true h), if_pos h]; rfl
    · rw [if_neg (by rw [decide_eq_false h]; decide), if_neg h]
  · rw [List.map_append]
    rfl
end
variable {Γ Γ' : Ctx} {α β : Type} {m : R α} {po : α → PO} {K : O → KC} {o o1 o2 o3 : O} {fa fk fv fx fb : FE} {rest : FS} {x y : PyData} {i : Nat} {C : KC}
variable {κ υ : Type} [DecidableEq κ] [Datum κ] [DecidableEq υ] [Datum υ] [KeyTT κ]
theorem j_tnew (k : J Γ (K (.b (.rs 2 (dD ([] : List (κ × υ)))))) m po) : J Γ (cX fTNew K) m po := k
def cTGet (i : Nat) (o : O) (K : O → KC) : KC := fun e => match at? e i with
  | some (.rs 2 (.dict ds)) => (res e o).bind fun k => if isKT k = true then (lookDT ds k).bind fun d => K (.b (.fr d)) e else none
  | _ => none
theorem j_tget (h : Γ[i]? = some (some (.rs 2 x))) (kk : J Γ (cX fb fun o => cTGet i o K) m po) : J Γ (cX (fTGet i fb) K) m po := kk.to fun e he => ⟨e, he, by
  have h1 : at? e i = some (.rs 2 x) := he.hold i _ h
  show bndS (fTGet i fb e) K = bndS (fb e) _
  unfold fTGet
  rw [h1]
  show bndS (bnd (fb e) _) K = _
  rw [bndS_bnd]
  refine congrArg _ (funext fun a => funext fun e1 => ?_)
  unfold cTGet
  split
  · rename_i ds q
    try rw [q]
    show bndS ((res e1 a).bind _) K = (res e1 a).bind _
    rw [bndS_ob]
    refine congrArg _ (funext fun k => ?_)
    split
    · cases lookDT ds k <;> rfl
    · rfl
  · rename_i hn
    first
      | rfl
      | (split
         · rename_i ds q
           exact absurd q (hn ds)
         · rfl)⟩
theorem j_tgop {l : List (κ × υ)} {k : κ} {mk : υ → R α} (h : Γ[i]? = some (some (.rs 2 (dD l)))) (hr : Rd Γ o (toD k)) (kk : ∀ v : υ, J Γ (K (.b (.fr (toD v)))) (mk v) po) : J Γ (cTGet i o K) (ob (lookT l k) mk) po := j_ob fun v hv => (kk v).to fun e he => ⟨e, he, by
  have h1 : at? e i = some (.rs 2 (dD l)) := he.hold i _ h
  unfold cTGet
  rw [h1]
  show (res e o).bind _ = _
  rw [hr e he, Option.bind_some, if_pos (KeyTT.isK k), look_eT, hv]
  rfl⟩
def cTIn (neg : Bool) (i : Nat) (o : O) (K : O → KC) : KC := fun e => match at? e i with
  | some (.rs 2 (.dict ds)) => (res e o).bind fun k => if isKT k = true then K (.b (.fr (.bool ((lookDT ds k).isSome != neg)))) e else none
  | _ => none
theorem j_tin {neg : Bool} (kk : J Γ (cX fk fun o => cTIn neg i o K) m po) : J Γ (cX (fTIn neg i fk) K) m po := kk.eq (funext fun e => by
  show bndS (bnd (fk e) _) K = bndS (fk e) _
  rw [bndS_bnd]
  refine congrArg _ (funext fun a => funext fun e1 => ?_)
  unfold cTIn
  split
  · rename_i ds q
    try rw [q]
    show bndS ((res e1 a).bind _) K = (res e1 a).bind _
    rw [bndS_ob]
    refine congrArg _ (funext fun k => ?_)
    split <;> rfl
  · rename_i hn
    first
      | rfl
      | (split
         · rename_i ds q
           exact absurd q (hn ds)
         · rfl))
theorem j_tninop {l : List (κ × υ)} {k : κ} (h : Γ[i]? = some (some (.rs 2 (dD l)))) (h2 : Rd Γ o (toD k)) (kk : J Γ (K (.b (.fr (toD (!(lookT l k).isSome))))) m po) : J Γ (cTIn true i o K) m po := kk.to fun e he => ⟨e, he, by
  have h1 : at? e i = some (.rs 2 (dD l)) := he.hold i _ h
  unfold cTIn
  rw [h1]
  show (res e o).bind _ = _
  rw [h2 e he, Option.bind_some, if_pos (KeyTT.isK k), look_eT, Option.isSome_map, Bool.bne_true]
  rfl⟩
def cPutT (i : Nat) (o : O) (d : PyData) (C : KC) : KC := fun e => match at? e i with
  | some (.rs 2 (.dict ds)) => (res e o).bind fun k => if isKT k = true ∧ ds.length < big then C (e.set i (some (.rs 2 (.dict (putDT ds k d))))) else none
  | _ => none
def cIsT (i : Nat) (C : KC) : KC := fun e => match at? e i with
  | some (.rs 2 _) => C e
  | _ => none
theorem j_tput (k : J Γ (cX fv fun o => cFz o fun d => cIsT i (cX fx fun o => cPutT i o d rest)) m po) : J Γ (sSeq (sTPut i fx fv) rest) m po := k.eq (funext fun e => by
  show thn (bndS (fv e) fun o e1 => (fz e1 o).bind fun p => match at? p.2 i with
    | some (.rs 2 _) => bndS (fx p.2) fun o2 e2 => match at? e2 i with
      | some (.rs 2 (.dict ds)) => (res e2 o2).bind fun k => if isKT k = true ∧ ds.length < big then some (SO.nx (e2.set i (some (.rs 2 (.dict (putDT ds k p.1)))))) else none
      | _ => none
    | _ => none) rest = _
  rw [thn_bndS]
  refine congrArg _ (funext fun a => funext fun e1 => ?_)
  rw [thn_ob]
  refine congrArg _ (funext fun p => ?_)
  show _ = cIsT i (cX fx fun o => cPutT i o p.1 rest) p.2
  unfold cIsT
  split
  · rename_i d q
    rw [thn_bndS]
    show _ = bndS (fx p.2) _
    refine congrArg _ (funext fun a2 => funext fun e2 => ?_)
    unfold cPutT
    split
    · rw [thn_ob]
      refine congrArg _ (funext fun k => ?_)
      split <;> rfl
    · rfl
  · rfl)
theorem j_ist {C : KC} (h : Γ[i]? = some (some (.rs 2 x))) (k : J Γ C m po) : J Γ (cIsT i C) m po := k.to fun e he => ⟨e, he, by
  have h1 : at? e i = some (.rs 2 x) := he.hold i _ h
  show (match at? e i with
    | some (.rs 2 _) => C e
    | _ => none) = C e
  rw [h1]
  rfl⟩
theorem j_tputop {l : List (κ × υ)} {k : κ} {v : υ} {mk : List (κ × υ) → R α} (h : Γ[i]? = some (some (.rs 2 (dD l)))) (ho : Rd Γ o (toD k)) (kk : ∀ a, J (Γ.set i (some (.rs 2 (dD a)))) C (mk a) po) : J Γ (cPutT i o (toD v) C) (ob (putG l k v) mk) po := j_ob fun a ha => (kk a).to fun e he => by
  unfold putG at ha
  split at ha
  · rename_i hl
    cases ha
    have h1 : at? e i = some (.rs 2 (dD l)) := he.hold i _ h
    refine ⟨e.set i (some (.rs 2 (.dict (putDT (l.map eD) (toD k) (toD v))))), he.set (s := .rs 2 (dD (putT l k v))) (by rw [put_eT]; rfl), ?_⟩
    unfold cPutT
    rw [h1]
    show ((res e o).bind fun k => if isKT k = true ∧ (l.map eD).length < big then C (e.set i (some (.rs 2 (.dict (putDT (l.map eD) k (toD v)))))) else none) = _
    rw [ho e he, Option.bind_some, if_pos ⟨KeyTT.isK k, by rw [List.length_map]; exact hl⟩]
  · cases ha
end TM
set_option maxRecDepth 100000
namespace TM
open PySem L2 VL PySem.W PySem.SeqAt Datum
end TM
set_option maxRecDepth 100000
namespace TM
open PySem L2 VL PySem.W PySem.SeqAt Datum
instance : Lay (List (Int × Int)) := ⟨lay_lst, by decide⟩
instance : Lay (Option (List Int)) := ⟨fun o => by
  cases o with
  | none => rfl
  | some l => exact Lay.lay l, by decide⟩
variable {Γ : Ctx} {α τ : Type} {po : α → PO} {K : O → KC} {i : Nat} {m0 : R α}
end TM
set_option maxRecDepth 100000
namespace TM
open PySem L2 VL PySem.W PySem.SeqAt Datum
variable {Γ Γ' : Ctx} {α β : Type} {m : R α} {po : α → PO} {K : O → KC} {KI : List PyData → KC} {fa : FE} {x : PyData} {i : Nat}
variable {κ υ : Type} [DecidableEq κ] [Datum κ] [DecidableEq υ] [Datum υ]
instance : Lay (Int × List Int) := ⟨fun p => by
  show (PyData.tuple [.int p.1, toD p.2]).canLay0 = true
  rw [PyData.canLay0, PyData.canLayAll0, PyData.canLayAll0, PyData.canLayAll0, Lay.lay p.2]
  simp [PyData.canLay0], by decide⟩
instance : Lay (List (Int × List Int)) := ⟨lay_lst, by decide⟩
end TM
set_option maxRecDepth 100000
namespace TM
open PySem L2 VL PySem.W PySem.SeqAt Datum
end TM
set_option maxRecDepth 100000
namespace TM
open PySem L2 VL PySem.W PySem.SeqAt Datum
end TM
set_option maxRecDepth 100000
namespace TM
open PySem L2 VL PySem.W PySem.SeqAt Datum
end TM
set_option maxRecDepth 100000
namespace TM
open PySem L2 VL PySem.W PySem.SeqAt Datum PyProof.Rows
end TM
set_option maxRecDepth 100000
namespace TM
open PySem L2 VL PySem.W PySem.SeqAt Datum
end TM
set_option maxRecDepth 100000
namespace TM
open PySem L2 VL PySem.W PySem.SeqAt Datum PyProof.Rows
instance : Lay (Option (Int × List Int)) := ⟨fun o => by
  cases o with
  | none => rfl
  | some a => exact Lay.lay a, by decide⟩
end TM
set_option maxRecDepth 100000
namespace VL
open PySem L2 PySem.Spec PyProof.Rows
open PySem.SeqAt (shaped)
open PySem.W (minD)
end VL
set_option maxRecDepth 100000
namespace VL
open PySem L2
end VL
set_option maxRecDepth 100000
namespace TM
open PySem L2 VL PySem.W PySem.SeqAt Datum
end TM
set_option maxRecDepth 100000
namespace VL
open PySem L2 PySem.Spec PyProof.Rows
end VL
set_option maxRecDepth 100000
namespace VL
open PySem L2
end VL
set_option maxRecDepth 100000
namespace VL
open PySem L2
/-- a method that may be called -/
structure CalM (X : Cx) (ρ : Nat → Res) (c m : Str) (n : Nat) (ms : List Nat) (F : Fn) (k : Nat) : Prop where
  ex : ∃ A f fd ps, X.mg c = some (.ref A) ∧ Cls X.K A ∧ Meth X.K A m f ∧ FnG X.prog X.w X.K X.mg X.base k f fd ps (spV (cc X ρ) n ms F) ∧ Binds X.K fd ps []
/-- a class that may be made -/
structure CalC (X : Cx) (ρ : Nat → Res) (c : Str) (n : Nat) (F : Fn) (k : Nat) : Prop where
  ex : ∃ A f fd ps, X.mg c = some (.ref A) ∧ Cls X.K A ∧ Mk X.K A f ∧ FnG X.prog X.w X.K X.mg X.base k f fd ps (spV (cc X ρ) (n + 1) [0] F) ∧ Binds X.K fd ps []
section
variable {X : Cx} {ρ : Nat → Res} {W : WX} {a : Expr} {es : List Expr} {pos p apos : Pos} {as_ : FA} {π : List (Nat × V)} {e e1 : Env} {σ : St} {w w1 : WS} {c m : Str} {fs : List Str} {i : Nat} {k n : Nat} {mi : List (Nat × Nat)} {F : Fn}
theorem call_tail {os : List O} {vs : List V} {Q : VK} {E : XK} (n2 : (mi.map (·.2)).Nodup) (m1 : Mt (cc X ρ) π e1 σ w1) (f1 : Frm w w1) (k1 : Paired (OOk (cc X ρ) σ w w1) os vs) (hE : ∀ A H, W (.ref A) none σ H → E (.ref A) none H)
    (h1 : Post (cc X ρ) W π σ w (if (slotsOk mi 0 os && miOk mi os && os.length == n) = true then (bindO e1 os).bind fun bs => match F bs with
      | none => none
      | some (.ret b e2) => some (.ok (O.b b) (putBack e2 mi e1))
      | some (.ex c e2) => some (.ex c (putBack e2 mi e1)) else none) (OOk (cc X ρ) σ w) Q) : spV (cc X ρ) n (mi.map (·.1)) F vs w1.H Q E := by
  have h2 := h1.from f1
  split at h2
  case isFalse => exact h2.elim
  case isTrue hok =>
    rw [Bool.and_eq_true, Bool.and_eq_true] at hok
    obtain ⟨hok, hlen⟩ := hok
    have hlen := beq_iff_eq.mp hlen
    cases qb : bindO e1 os with
    | none => rw [qb] at h2; exact h2.elim
    | some bs =>
      rw [qb] at h2
      simp only [Option.bind_some] at h2
      refine ⟨?_, bs, w1.lend mi, rfl, lend_mt m1 n2 hok.1 hok.2 qb k1, ?_⟩
      · rw [← paired_length k1]; exact hlen
      · cases qF : F bs with
        | none => rw [qF] at h2; exact h2.elim
        | some r =>
          rw [qF] at h2
          cases r with
          | ret b e2 =>
            intro v w' m' f' k'
            obtain ⟨g1, g2⟩ := back_mt m1 n2 hok.2 k1 f' m' rfl
            refine h2 v (w1.back w' mi) g1 g2 ?_
            obtain ⟨fp, b1, b2⟩ := k'
            refine ⟨fp, b1, fun a ha => ⟨f1.back ?_, fun i z => ?_⟩⟩
            · rcases (b2 a ha).1 with q | ⟨j, i, q1, q2⟩
              · exact .inl q
              · exact .inr ⟨i, q2⟩
            · rcases z with ⟨j, _, z⟩ | ⟨hn, z⟩
              · exact (b2 a ha).2 j z
              · obtain ⟨_, o, ho⟩ := m1.own z
                rcases (b2 a ha).1 with q | ⟨j, i', q1, q2⟩
                · have q' : w1.H a = none := q
                  rw [ho] at q'; cases q'
                · have := m1.dis i i' a z q2
                  subst this
                  exact hn j q1
          | ex c e2 =>
            intro w' A hA m' f'
            obtain ⟨g1, g2⟩ := back_mt m1 n2 hok.2 k1 f' m' rfl
            exact hE A _ (h2 (w1.back w' mi) A hA g1 g2)
end
end VL
set_option maxRecDepth 100000
namespace VL
open PySem L2
end VL
set_option maxRecDepth 100000
namespace VL
open PySem L2 PySem.Spec PyProof.Rows
section
variable {P : Program} {w : World} {K : PySem.W.Frag} {mg : Str → Option Value} {base : Heap} {ρ : Nat → Res}
structure CalN (P : Program) (w : World) (K : PySem.W.Frag) (mg : Str → Option Value) (base : Heap) (ρ : Nat → Res) (c m : Str) (n : Nat) (ms : List Nat) (F : Fn) (k : Nat) : Prop where
  ex : ∃ A f fd ps, mg c = some (.ref A) ∧ Cls K A ∧ Meth K A m f ∧ FnG P w K mg base k f fd ps (spV ⟨K, mg, ρ⟩ n ms F) ∧ Binds K fd ps []
theorem CalN.c {X : Cx} {c m : Str} {n : Nat} {ms : List Nat} {F : Fn} {k : Nat} (h : CalN X.prog X.w X.K X.mg X.base ρ c m n ms F k) : CalM X ρ c m n ms F k := ⟨h.ex⟩
structure CalI (P : Program) (w : World) (K : PySem.W.Frag) (mg : Str → Option Value) (base : Heap) (ρ : Nat → Res) (c : Str) (n : Nat) (F : Fn) (k : Nat) : Prop where
  ex : ∃ A f fd ps, mg c = some (.ref A) ∧ Cls K A ∧ Mk K A f ∧ FnG P w K mg base k f fd ps (spV ⟨K, mg, ρ⟩ (n + 1) [0] F) ∧ Binds K fd ps []
theorem CalI.c {X : Cx} {c : Str} {n : Nat} {F : Fn} {k : Nat} (h : CalI X.prog X.w X.K X.mg X.base ρ c n F k) : CalC X ρ c n F k := ⟨h.ex⟩
end
end VL
set_option maxRecDepth 100000
namespace VL
open PySem L2
/-- a Lister's attributes -/
def lsF : List Str := ["way", "things", "far", "held", "deeds"]
end VL
set_option maxRecDepth 100000
namespace VL
open PySem L2
end VL
set_option maxRecDepth 100000
namespace VL
open PySem L2
end VL
set_option maxRecDepth 100000
namespace VL
open PySem L2
end VL
set_option maxRecDepth 100000
namespace VL
open PySem L2
end VL
set_option maxRecDepth 100000
namespace TM
open PySem L2 VL PySem.W PySem.SeqAt
open PySem.W.Datum (toD)
/-- a Lister, by its attributes -/
structure Ls where
  way : Str
  things : Int
  far : Int
  held : List (List Int)
  deeds : List (Bool × List Int)
def Ls.tr (s : Ls) : Tr := .nd (.ins "Lister" lsF) [.fr (toD s.way), .fr (toD s.things), .fr (toD s.far), .nd .lst ((s.held.map toD).map .fr), .nd .lst ((s.deeds.map toD).map .fr)]
instance : Lay (Bool × List Int) := ⟨fun p => by
  show (PyData.tuple [.bool p.1, toD p.2]).canLay0 = true
  rw [PyData.canLay0, PyData.canLayAll0, PyData.canLayAll0, PyData.canLayAll0, Lay.lay p.2]
  simp [PyData.canLay0], by decide⟩
instance : Lay (List (Bool × List Int)) := ⟨lay_lst, by decide⟩
variable {Γ Γ' Γ1 Γ2 Γl : Ctx} {α β σ τ γ δ υ : Type} {m : R α} {po : α → PO} {K : O → KC} {C : KC} {o o1 o2 o3 : O} {x y : PyData} {b z : B} {i j n q : Nat} {f fa fb fc fx fy fv : FE} {fd : FD} {t : FT} {rest A : FS} {fi : FI} {l vs : List Nat} {a : α} {c mn : Str} {fs gs : List Str} {ts : List Tr} {ds : List PyData} {F : Fn} {r : FA} {mi : List (Nat × Nat)}
end TM
set_option maxRecDepth 100000
namespace TM
open PySem L2 VL PySem.W PySem.SeqAt
open PySem.W.Datum (toD)
end TM
set_option maxRecDepth 100000
namespace TM
open PySem L2 VL PySem.W PySem.SeqAt
open PySem.W.Datum (toD)
variable {Γ Γ' Γ1 : Ctx} {α β σ τ : Type} {m : R α} {po : α → PO} {K : O → KC} {f : FE} {rest : FS}
instance : Lay (List (Option Int)) := ⟨lay_lst, by decide⟩
end TM
set_option maxRecDepth 100000
namespace VL
open PySem L2 PySem.Spec PyProof.Rows
end VL
set_option maxRecDepth 100000
namespace TM
open PySem L2 VL PySem.W PySem.SeqAt
open PySem.W.Datum (toD)
end TM
set_option maxRecDepth 100000
namespace VL
open PySem L2 PySem.Spec PyProof.Rows
end VL
set_option maxRecDepth 100000
namespace VL
open PySem L2 PySem.Spec PyProof.Rows
end VL
set_option maxRecDepth 100000
namespace TM
open PySem L2 VL PySem.W PySem.SeqAt Datum
end TM
set_option maxRecDepth 100000
namespace TM
open PySem L2 VL PySem.W PySem.SeqAt
open PySem.W.Datum (toD)
end TM
set_option maxRecDepth 100000
namespace TM
open PySem L2 VL PySem.W PySem.SeqAt
open PySem.W.Datum (toD)
end TM
set_option maxRecDepth 100000
namespace VL
open PySem PySem.Spec PyProof.Rows PySem.Calls PySem.SeqAt L2
end VL
set_option maxRecDepth 100000
namespace TM
open PySem L2 VL PySem.W PySem.SeqAt Datum
end TM
set_option maxRecDepth 100000
namespace VL
open PySem L2 PySem.Spec PyProof.Rows PySem.Calls
section
variable {X : Cx} {ρ : Nat → Res} {W : WX}
theorem RpDT.at {K : PySem.W.Frag} {G : Hp} : ∀ {ks : List (List Key × V)} {ds : DKv}, RpDT K G ks ds → ∀ {i : Nat} {k : List Key} {v : V}, ks[i]? = some (k, v) → ∃ d, (kPT k, d) ∈ ds
  | _, _, .nil, _, _, _, h => by simp at h
  | _, _, .cons (d := d) _ t, 0, _, _, h => by cases h; exact ⟨d, List.mem_cons_self⟩
  | _, _, .cons _ t, i + 1, _, _, h => by
    obtain ⟨d, hd⟩ := t.at (i := i) (by simpa using h)
    exact ⟨d, List.mem_cons_of_mem _ hd⟩
end
end VL
namespace VL
open PySem L2 PySem.Spec PyProof.Rows PySem.Calls
end VL
set_option maxRecDepth 100000
namespace VL
open PySem L2 PySem.Spec PyProof.Rows PySem.Calls
end VL
set_option maxRecDepth 100000
namespace VL
open PySem L2
def oSlT : PyData → Option Int → Option Int → Option B
  | .tuple ds, lo, hi => some (.fr (.tuple (cutD ds lo hi)))
  | _, _, _ => none
def fSlT (fa : FE) (fl fh : FO) : FE := fun e => bnd (fa e) fun o e1 => bnd (fl e1) fun l e2 => bnd (fh e2) fun h e3 => (res e3 o).bind fun x => (oSlT x l h).bind fun z => some (.ok (.b z) e3)
section
variable {X : Cx} {ρ : Nat → Res} {W : WX} {a : Expr} {fa : FE} {pos : Pos}
theorem ve_slT {lo hi : Option Expr} {fl fh : FO} {p2 : Pos} (ha : VE X ρ W a fa) (hl : VO X ρ W lo fl) (hh : VO X ρ W hi fh) : VE X ρ W (.Subscript a (.Slice lo hi none p2) pos) (fSlT fa fl fh) := by
  obtain ⟨t, p, s⟩ := ha
  obtain ⟨t1, p1, s1⟩ := hl
  obtain ⟨t2, p2', s2⟩ := hh
  refine ⟨_, pe_slice sl_tupA p p1 p2', fun π e σ w Q m h => ?_⟩
  refine s π e σ w _ m (h.bnd fun o1 e1 v1 w1 m1 f1 k1 h1 => ?_)
  refine s1 π e1 σ w1 _ m1 ((h1.from f1).bnd fun l e2 l' w2 m2 f2 k2 h2 => ?_)
  subst k2
  refine s2 π e2 σ w2 _ m2 ((h2.from f2).bnd fun u e3 u' w3 m3 f3 k3 h3 => ?_)
  subst k3
  have h4 := h3.from f3
  cases q1 : res e3 o1 with
  | none => rw [q1] at h4; exact h4.elim
  | some d1 =>
    rw [q1] at h4
    simp only [Option.bind_some] at h4
    have r := res_sound m3 ((k1.step f2).step f3) q1
    cases q2 : oSlT d1 l u with
    | none => rw [q2] at h4; exact h4.elim
    | some z =>
      rw [q2] at h4
      cases d1 with
      | tuple ds =>
        cases q2
        obtain ⟨q, xs, rfl, hq, rq⟩ := r
        refine ⟨q, xs, rfl, .of (m3.sub _ _ hq), fun hw => ?_, fun _ p hp => ?_⟩
        · have e : cutD ds l u = ds := by
            unfold cutD
            rw [← rq.length, hw.1, hw.2, List.drop_zero, Nat.sub_zero, rq.length, List.take_length]
          rw [e] at h4
          exact h4 _ w3 m3 (.refl _) (.fr (.tup hq rq))
        · have rz : RpAll X.K w3.G (cutV xs l u) (cutD ds l u) := by
            unfold cutV cutD
            rw [rq.length]
            exact (rq.drop _).take _
          obtain ⟨m5, m5', f5, eH5, k5⟩ := mk_tup m3 hp rz
          rw [← eH5]
          exact h4 _ _ m5' f5 (k5.base ((f1.trans f2).trans f3))
      | str zz => cases q2
      | none => cases q2
      | bool i => cases q2
      | int i => cases q2
      | list i => cases q2
      | dict i => cases q2
end
end VL
set_option maxRecDepth 100000
namespace VL
open PySem L2
end VL
set_option maxRecDepth 100000
namespace VL
open PySem PySem.Spec PyProof.Rows L2
section
variable {prog : Program} {w : World} {A : Around} {E : Value → Shared → Prop} {s : Shared}
set_option maxHeartbeats 1000000 in
theorem en_meets {v : Value} {ob : Obj} {Hh : Heap → Prop} (B : Begins v ob Hh) :
    Meets (Builtin.«enumerate.__new__» ⟨[.type "enumerate", v], []⟩) (fun _ R z => Hh z.heap ∧ R (.ok (.ret (.ref (z.heap.push ob).objs.size)))
      { z with heap := (z.heap.push ob).push { cls := .type "enumerate", data := .fields #[.none, .bool false, .ref z.heap.objs.size, rawInt 0, .none, .none] } }) := .of_wp fun P W2 A2 R2 z hz => by
  obtain ⟨h0, g0, d0, t0, o0⟩ := z
  obtain ⟨hz1, hz2⟩ := hz
  have hsub := sub_enumerate
  have qi : ∀ {A' : Around} {E' Q' : Value → Shared → Prop}, Q' (.ref h0.objs.size) ⟨h0.push ob, g0, d0, t0, o0⟩ → wpAny (model P W2) A' (pyIter v) Q' E' ⟨h0, g0, d0, t0, o0⟩ := fun q => B.iter P W2 _ _ ⟨h0, g0, d0, t0, o0⟩ _ hz1 q
  wp_walk using qi
  refine wpAny_stack_any fun st => wpAny_pure ?_
  split
  · rename_i c _ _ _ _ _
    cases (c == Value.type "enumerate") <;> (wp_walk using qi; exact ⟨_, rfl, hz2⟩)
  · wp_walk using qi
    exact ⟨_, rfl, hz2⟩
theorem en_call {v : Value} {ob : Obj} {Hh : Heap → Prop} {Q : Value → Shared → Prop} (B : Begins v ob Hh) (h1 : Hh s.heap)
    (h : ∀ h', IsEnum h' (s.heap.objs.size + 1) s.heap.objs.size 0 .none → h'.get? s.heap.objs.size = some ob → (∀ b o, s.heap.get? b = some o → h'.get? b = some o) → Q (.ref (s.heap.objs.size + 1)) { s with heap := h' }) :
    wpAny (model prog w) A (PySem.call (.type "enumerate") [v]) Q E s := by
  refine callType_new F.called_enumerate (by decide) (F.typeCall_enumerate_1 _) (F.newCall_enumerate_1 _) (fun obj => F.args_object_init_2 obj _) F.entry_enumerate_new (en_meets B) ⟨h1, ?_⟩
  have hz : (s.heap.push ob).objs.size = s.heap.objs.size + 1 := Heap.size_push ..
  show _ ∧ _
  rw [hz]
  have he := Heap.get?_push_size (s.heap.push ob) (o := { cls := .type "enumerate", data := .fields #[.none, .bool false, .ref s.heap.objs.size, rawInt 0, .none, .none] }) rfl
  rw [hz] at he
  exact ⟨⟨_, he, rfl⟩, h _ he (Heap.get?_push_of_some _ (Heap.get?_push_size _ B.free)) fun b o x => Heap.get?_push_of_some _ (Heap.get?_push_of_some _ x)⟩
end
/-- the tuple at a, each of its things in a new pair -/
def IteT (K : PySem.W.Frag) (a : Addr) : It :=
  ⟨fun i H => ∃ (xs : List V) (x : V), SqT K H a xs ∧ xs[i]? = some x, fun i H v H' => ∃ T x, v = .ref T ∧ H T = none ∧ H' = upd H T (.tup [.int (i : Nat), x]) ∧ ∀ xs, SqT K H a xs → xs[i]? = some x, fun i H => ∃ xs : List V, SqT K H a xs ∧ xs.length ≤ i⟩
theorem turn_enT {P : Program} {w : World} {K : PySem.W.Frag} {elts : List Expr} {kk : Nat} {tpos : Pos} (a e it : Addr) :
    Turn P w K (.Tuple elts kk tpos) (IteT K a) [e, it] e (fun i h => (∃ old, IsEnum h e it ((i : Nat) : Int) old) ∧ h.IsTupleIter it a i ∧ e ≠ it) where
  mem := List.mem_cons_self
  obj := fun i h st b hb => by
    obtain ⟨⟨old, he⟩, ⟨o, ho, hc, hd⟩, _⟩ := st
    have e' : b = e ∨ b = it := by simpa using hb
    rcases e' with rfl | rfl
    · exact ⟨_, he, fun v q => nomatch q⟩
    · exact ⟨o, ho, fun v q => by rw [hd] at q; cases q⟩
  keep := fun i h h' st k => by
    obtain ⟨⟨old, he⟩, hi, hne⟩ := st
    exact ⟨⟨old, k e (by simp) _ he⟩, hi.at (fun o q => k it (by simp) o q), hne⟩
  item := by
    intro X hP hw hK hc i pins s σ H E I hf st hg
    subst hP hw hK
    obtain ⟨⟨old, he⟩, hit, hne⟩ := st
    obtain ⟨xs, x, hq, hx⟩ := hg
    obtain ⟨its, rv, p, hz⟩ := I.tuple hq
    have pt : s.heap.IsTuple a its.toArray := p
    have hel : e < s.heap.objs.size := Heap.lt_size he
    have hil : it < s.heap.objs.size := by obtain ⟨_, q, _⟩ := hit; exact Heap.lt_size q
    have hae : e ≠ a := fun z => by
      obtain ⟨oo, h1, h2, _⟩ := pt
      rw [← z, he] at h1
      cases h1
      exact absurd (Value.type.inj h2) (by decide)
    have hai : a ≠ it := fun z => by
      obtain ⟨oo, h1, h2, _⟩ := pt
      obtain ⟨o2, h3, h4, _⟩ := hit
      rw [z, h3] at h1
      cases h1
      rw [h4] at h2
      exact absurd (Value.type.inj h2) (by decide)
    have D := Draws.tuple (prog := X.prog) (w := X.w) (A := X.A.in1) (I.ok.hd hc) it a hai its.toArray
    have hl : xs.length = its.length := rv.length
    have hlt : i < its.toArray.size := by
      have := (List.getElem?_eq_some_iff.mp hx).1
      rw [List.size_toArray]
      omega
    refine wpAny_pyNext_enum_itemC D he ⟨hit, pt⟩ hlt hne (by simp [hne, hae]) fun u h' tk hu ho hst hT hsz hk => ?_
    have hu' : its[i]? = some u := by simpa using hu
    obtain ⟨u2, hu2, ru⟩ := rv.get hx
    have eu : u2 = u := Option.some.inj (hu2.symm.trans hu')
    subst eu
    refine ⟨_, rfl, wpAny_letOwnedTupleGo_enum (s := { s with heap := h', toks := tk + 1 }) ho fun h'' he' sb => ?_⟩
    have hT2 : h''.get? s.heap.objs.size = some { cls := .type "tuple", data := .seq #[.int i tk, u2] } := (sb.2 _ (Nat.ne_of_gt hel)).trans hT
    have new : ObjOk X.prog X.w (upd H s.heap.objs.size (.tup [.int (i : Nat), x])) h'' s.heap.objs.size (.tup [.int (i : Nat), x]) :=
      ⟨by show 2 ≤ sizeLine; decide, [.int i tk, u2], .cons ⟨_, rfl⟩ (.cons ru .nil), ⟨_, hT2, rfl, _, rfl⟩⟩
    have keep : ∀ b o, b ≠ e → b ≠ it → s.heap.get? b = some o → h''.get? b = some o := fun b o n1 n2 q => (sb.2 b n1).trans (hk b o n1 n2 q)
    have I1 : Inv X pins σ (upd H s.heap.objs.size (.tup [.int (i : Nat), x])) { s with heap := h'', toks := tk + 1 } := by
      refine I.turnedNew (ch := [e, it]) (fun b ob hb q => keep b ob (fun z => hb (by simp [z])) (fun z => hb (by simp [z])) q) hf (Nat.le_refl _) new
    refine ⟨.ref s.heap.objs.size, _, I1, rfl, ⟨_, x, rfl, I.hok.fresh (Nat.le_refl _), rfl, fun ys hy => by rw [I.tuple_inj hy hq]; exact hx⟩, ⟨⟨u2, ?_⟩, hst.1.at (fun o q => (sb.2 it (Ne.symm hne)).trans q), hne⟩, fun b hb => ?_⟩
    · rw [show ((i + 1 : Nat) : Int) = (i : Int) + 1 by omega]
      exact he'
    · have hb' : b < s.heap.objs.size := by
        have e' : b = e ∨ b = it := by simpa using hb
        rcases e' with rfl | rfl
        · exact hel
        · exact hil
      exact (upd_ne (Nat.ne_of_lt hb')).trans (hf b hb).1
  done := by
    intro X hP hw hK hc i pins s σ H E I hf st hg
    subst hP hw hK
    obtain ⟨⟨old, he⟩, hit, hne⟩ := st
    obtain ⟨xs, hq, hx⟩ := hg
    obtain ⟨its, rv, p, hz⟩ := I.tuple hq
    have pt : s.heap.IsTuple a its.toArray := p
    obtain ⟨f0, f1, f2, f3, f4, f5⟩ := hf it (by simp)
    have hai : a ≠ it := fun z => by
      obtain ⟨oo, h1, h2, _⟩ := pt
      obtain ⟨o2, h3, h4, _⟩ := hit
      rw [z, h3] at h1
      cases h1
      rw [h4] at h2
      exact absurd (Value.type.inj h2) (by decide)
    have hl := rv.length
    have D : Draws X.prog X.w X.A.in1 it [it, a] 0 (fun _ _ => False) (fun j h => j = 0 ∧ h.IsTupleIter it a i ∧ h.IsTuple a its.toArray) := {
      live := fun _ _ st => let ⟨o, ho, _⟩ := st.2.1; ⟨o, ho⟩
      frame := fun _ _ _ st hk => ⟨st.1, st.2.1.at (fun o e => hk it (by simp) o e), st.2.2.at fun o e => hk a (by simp) o e⟩
      item := fun i s Q E hi st hQ => absurd hi (Nat.not_lt_zero _)
      done := fun s Q E st hE => wpAny_nextOf_tuple_end (I.ok.hd hc) st.2.1 st.2.2 (by simp; omega) hE }
    exact wpAny_pyNext_enum_endD D he ⟨rfl, hit, pt⟩ fun h' eb => ⟨rfl, I.turned (t' := s.toks) (fun b o hb q => eb b o hb q) f0 f1 f3 f4 f5⟩
  self := fun A i s Q E st h => by
    obtain ⟨⟨_, he⟩, _⟩ := st
    exact wpAny_pyIter_enum he h
def iEnT (K : PySem.W.Frag) (ta : TA) : TI := fun σ H R => ta σ H fun vs H1 => ∃ a xs, vs = [.ref a] ∧ SqT K H1 a xs ∧ R (IteT K a) H1
theorem pi_enT {X : Cx} {e : Expr} {ta : TA} {p pos tpos : Pos} {elts : List Expr} {kk : Nat} (hg : Gl X "enumerate") (hm : X.mg "enumerate" = none) (ha : PA X [e] ta) (hs : starEach [e] X.env = [(false, eval e X.env)] := by rfl) : PI X (.Tuple elts kk tpos) (.Call (.Name "enumerate" p) [e] [] pos) (iEnT X.K ta) := by
  constructor
  intro pins s σ H R I h
  refine Call_ (ld_blt I hg hm boot_enumerate (PyProof.Rows.callWith_type1 (thn (ha.run pos pins s σ H _ I h) fun us s1 q0 => ?_) hs rfl))
  obtain ⟨vs, H1, I1, r1, a, xs, rfl, hq, q⟩ := q0
  cases r1 with
  | cons r rr =>
    cases rr
    cases r
    obtain ⟨its, rv, p', hz⟩ := I1.tuple hq
    refine en_call (begins_tuple a its.toArray) p' fun h' he ho hk => wpAny_pyIter_enum he ?_
    have I2 : Inv X pins σ H1 { s1 with heap := h' } := I1.kept (t' := s1.toks) hk
    refine ⟨s1.heap.objs.size + 1, [s1.heap.objs.size + 1, s1.heap.objs.size], _, _, H1, rfl, I2, turn_enT a (s1.heap.objs.size + 1) s1.heap.objs.size, ⟨⟨.none, he⟩, ⟨_, ho, rfl, rfl⟩, Nat.succ_ne_self _⟩, fun b hb => ?_, q⟩
    have hle : s1.heap.objs.size ≤ b := by
      have e' : b = s1.heap.objs.size + 1 ∨ b = s1.heap.objs.size := by simpa using hb
      rcases e' with z | z
      · exact z ▸ Nat.le_add_right _ _
      · exact z ▸ Nat.le_refl _
    exact I1.fpOk hle (I1.hok.fresh hle)
theorem it_enT {C : Cc} {G : Hp} {p : Addr} {xs : List V} {ds : List PyData} (h : G p = some (.tup xs)) (r : RpAll C.K G xs ds) : ItOk C G (IteT C.K p) (enumL 0 ds) := fun i π e σ w m s => by
  have hH : w.H p = some (.tup xs) := m.sub _ _ (s _ _ h)
  have hl := r.length
  rw [enumL_length]
  refine ⟨fun hi => ⟨xs, xs[i]'(by omega), .of hH, List.getElem?_eq_getElem (by omega)⟩, fun hi => ⟨xs, .of hH, by omega⟩, fun x H' y d hd => ?_⟩
  obtain ⟨T, z, rfl, hT, rfl, hx⟩ := y
  obtain ⟨d', h1, rfl⟩ := enumL_get hd
  obtain ⟨v, h2, h3⟩ := r.get h1
  have := hx xs (.of hH)
  rw [h2] at this
  cases this
  obtain ⟨w2, m2, f2, eH, fp, k2⟩ := mk_tup (es := [.int ((0 + i : Nat) : Int), d']) m hT (.cons (by rw [Nat.zero_add]; exact .int _) (.cons (h3.mono s) .nil))
  exact ⟨w2, m2, f2, eH, k2.1.1⟩
def iEnumT (f : FE) : FI := fun e => bnd (f e) fun o e1 => (fz e1 o).bind fun p => match p.1 with
  | .tuple ds => some (.ok (enumL 0 ds) p.2)
  | _ => none
/-- one of two defs called, by an index -/
def fPick (fi : FE) (F1 F2 : Fn) (n : Nat) (as_ : FA) : FE := fun e => bnd (fi e) fun o e1 => match res e1 o with
  | some (.int k) => if k = 0 then fCall F1 n [] as_ e1 else if k = 1 then fCall F2 n [] as_ e1 else none
  | _ => none
section
variable {X : Cx} {ρ : Nat → Res} {W : WX} {a b fe : Expr} {es : List Expr} {pos p p2 lp sp : Pos} {fa fi : FE} {as_ : FA}
theorem vi_enumT {elts : List Expr} {kk : Nat} {tpos : Pos} (hm : X.mg "enumerate" = none) (ha : VE X ρ W a fa) (hg : Gl X "enumerate" := by rfl) (hs : starEach [a] X.env = [(false, eval a X.env)] := by rfl) :
    VI X ρ W (.Tuple elts kk tpos) (.Call (.Name "enumerate" p) [a] [] pos) (iEnumT fa) := by
  obtain ⟨t, p, s⟩ := ha
  refine ⟨_, pi_enT hg hm (pa_cons p pa_nil hs) hs, fun π e σ w R m h => ?_⟩
  refine s π e σ w _ m (h.bnd fun o1 e1 v1 w1 m1 f1 k1 h1 => ?_)
  cases q : fz e1 o1 with
  | none => rw [q] at h1; exact h1.elim
  | some pr =>
    rw [q] at h1
    simp only [Option.bind_some] at h1
    obtain ⟨w2, m2, f2, eH, r2⟩ := fz_sound (e' := pr.2) m1 f1 k1 q
    obtain ⟨d, e2⟩ := pr
    cases d with
    | tuple ds =>
      cases r2 with
      | tup g1 g2 =>
        rw [← eH]
        exact ⟨_, _, rfl, .of (m2.sub _ _ g1), h1 _ w2 m2 f2 (it_enT g1 g2)⟩
    | _ => exact h1.elim
theorem pe_callW {tf : TE} {t : TA} {E : L2.St → XK} {okf : V → Sp → Prop} (hf : PE X fe tf) (hok : ∀ x S, okf x S → ∃ f fd ps k, x = .ref f ∧ FnG X.prog X.w X.K X.mg X.base k f fd ps S ∧ Room k X.A ∧ PySem.W.keepIn X.K (.ref f) = true ∧ Binds X.K fd ps [])
    (gd : X.A.guards = some []) (sm : SmB X.base) (px : ∀ σ, PassesAt (L2.CX X.prog X.w) X σ (E σ)) (pa : PA X (a :: es) t) (he : starEach (a :: es) X.env = (false, eval a X.env) :: starEach es X.env) (hp : (backTo pos (starEach es X.env)).any (·.1) = false)
    (hev : eval (.Call fe (a :: es) [] pos) X.env = (do callWith pos (← eval fe X.env) [] (backTo pos (starEach (a :: es) X.env)) (backToKw pos (keywordEach [] X.env))) := by rfl) :
    PE X (.Call fe (a :: es) [] pos) (fun σ H Q => tf σ H fun x H1 => ∃ S, okf x S ∧ t σ H1 fun vs H2 => S vs H2 Q (E σ)) := by
  refine ⟨fun pins s σ H Q J h => Call_ (thn (hf.run pins s σ H _ J h) fun v s1 q0 => ?_) hev⟩
  obtain ⟨x, H1, J1, rx, S, o, q⟩ := q0
  obtain ⟨f, fd, ps, k, rfl, Fg, rm, kk, bn⟩ := hok x S o
  cases rx
  exact PySem.W.callWith_K (h₀ := X.base) J1.ok.mod.kin kk (thn (pa.run pos pins s1 σ H1 _ J1 q) fun us s2 ⟨vs, H2, J2, r, q2⟩ => ⟨J2.kIn, Fg.runs rm gd sm bn (px σ) J2 r q2⟩) he hp
theorem ve_pick {x1 x2 : Str} {n k1 k2 : Nat} {F1 F2 : Fn} (V0 : Vx X W) (c1 : Cal X ρ x1 n [] F1 k1) (c2 : Cal X ρ x2 n [] F2 k2) (hr1 : Room k1 X.A) (hr2 : Room k2 X.A) (hi : VE X ρ W b fi) (ha : VA X ρ W (a :: es) as_) (hg1 : Gl X x1 := by rfl) (hg2 : Gl X x2 := by rfl)
    (hd1 : (x1 == ("__debug__" : Str)) = false := by decide) (hd2 : (x2 == ("__debug__" : Str)) = false := by decide) (he : starEach (a :: es) X.env = (false, eval a X.env) :: starEach es X.env := by rfl) (hpl : (backTo pos (starEach es X.env)).any (·.1) = false := by rfl) (hix : PlainIx b := by exact fun _ _ => rfl)
    (hl1 : starEach [.Name x1 p, .Name x2 p2] X.env = (false, eval (.Name x1 p) X.env) :: starEach [.Name x2 p2] X.env := by rfl) (hl2 : starEach [.Name x2 p2] X.env = (false, eval (.Name x2 p2) X.env) :: starEach [] X.env := by rfl)
    (hev : eval (.Call (.Subscript (.List [.Name x1 p, .Name x2 p2] lp) b sp) (a :: es) [] pos) X.env = (do callWith pos (← eval (.Subscript (.List [.Name x1 p, .Name x2 p2] lp) b sp) X.env) [] (backTo pos (starEach (a :: es) X.env)) (backToKw pos (keywordEach [] X.env))) := by rfl) :
    VE X ρ W (.Call (.Subscript (.List [.Name x1 p, .Name x2 p2] lp) b sp) (a :: es) [] pos) (fPick fi F1 F2 n as_) := by
  obtain ⟨f1, fd1, ps1, FO1, gm1, gk1, gb1⟩ := c1.ex
  obtain ⟨f2, fd2, ps2, FO2, gm2, gk2, gb2⟩ := c2.ex
  obtain ⟨t, pa, s⟩ := ha
  obtain ⟨ti, pi, si⟩ := hi
  have pf := pe_ix (X := X) (pos := sp) ix_list (pe_lst (pos := lp) (pa_cons (pe_glob (pos := p) (v := .ref f1) hg1 gm1 rfl hd1) (pa_cons (pe_glob (pos := p2) (v := .ref f2) hg2 gm2 rfl hd2) pa_nil hl2) hl1)) pi hix
  refine ⟨_, pe_callW (okf := fun x S => (x = .ref f1 ∧ S = spV (cc X ρ) n [] F1) ∨ (x = .ref f2 ∧ S = spV (cc X ρ) n [] F2)) pf (fun x S o => ?_) V0.gd V0.sm (fun σ => passAt V0.tk σ) pa he hpl hev, fun π e σ w Q m h => ?_⟩
  · rcases o with ⟨rfl, rfl⟩ | ⟨rfl, rfl⟩
    · exact ⟨f1, fd1, ps1, k1, rfl, FO1, hr1, gk1, gb1⟩
    · exact ⟨f2, fd2, ps2, k2, rfl, FO2, hr2, gk2, gb2⟩
  · refine ⟨by show 2 ≤ sizeLine; decide, fun q hq => ?_⟩
    have m1 := m.new (o := .lst [.ref f1, .ref f2]) hq
    have f1' := Frm.new (o := .lst [.ref f1, .ref f2]) hq
    have hno : ∀ i, ¬ (w.new q (.lst [.ref f1, .ref f2])).fp i q := fun i => m.notOwned hq i
    refine si π e σ (w.new q (.lst [.ref f1, .ref f2])) _ m1 ((h.reb f1').bnd fun o e1 y w2 m2 f2' k2' h2 => ?_)
    have hq2 : w2.H q = some (.lst [.ref f1, .ref f2]) := (f2'.k q _ upd_same hno).1
    split at h2
    case h_2 => exact h2.elim
    rename_i k hres
    have rk := res_sound m2 k2' hres
    cases rk
    have tl : ∀ {F : Fn}, Post (cc X ρ) W π σ (w.new q (.lst [.ref f1, .ref f2])) (fCall F n [] as_ e1) (OOk (cc X ρ) σ (w.new q (.lst [.ref f1, .ref f2]))) Q → t σ w2.H fun vs H2 => spV (cc X ρ) n [] F vs H2 Q fun v d H3 => W v d σ H3 := by
      intro F h3
      refine s π e1 σ w2 _ m2 ((h3.reb f2').bnd fun os e3 vs w3 m3 f3 k3 h4 => ?_)
      exact call_tail (mi := []) (by decide) m3 f3 k3 (fun _ _ z => z) h4
    split at h2
    · rename_i hk
      subst hk
      exact ⟨q, [.ref f1, .ref f2], 0, .ref f1, rfl, rfl, .inl (.inl hq2), by simp [L2.atI, L2.ixN], _, .inl ⟨rfl, rfl⟩, tl h2⟩
    · split at h2
      · rename_i hk
        subst hk
        exact ⟨q, [.ref f1, .ref f2], 1, .ref f2, rfl, rfl, .inl (.inl hq2), by simp [L2.atI, L2.ixN], _, .inr ⟨rfl, rfl⟩, tl h2⟩
      · exact h2.elim
end
end VL
set_option maxRecDepth 100000
namespace TM
open PySem L2 VL PySem.W PySem.SeqAt Datum
end TM
set_option maxRecDepth 100000
namespace TM
open PySem L2 VL PySem.W Datum
end TM
set_option maxRecDepth 100000
namespace TM
open PySem L2 VL PySem.W PySem.SeqAt Datum
variable {Γ Γ' : Ctx} {α β : Type} {m : R α} {po : α → PO} {K : O → KC} {o : O} {fa : FE} {fl fh : FO} {x : PyData} {z : B}
def cSlT (o : O) (lo hi : Option Int) (K : O → KC) : KC := fun e => (res e o).bind fun x => (oSlT x lo hi).bind fun z => K (.b z) e
theorem j_slT (k : J Γ (cX fa fun o => cX fl fun l => cX fh fun h => cSlT o l h K) m po) : J Γ (cX (fSlT fa fl fh) K) m po := k.eq (funext fun e => by
  show bndS (bnd (fa e) fun o e1 => bnd (fl e1) fun l e2 => bnd (fh e2) fun h e3 => (res e3 o).bind fun x => (oSlT x l h).bind fun z => some (Out.ok (O.b z) e3)) K = _
  rw [bndS_bnd]
  refine congrArg _ (funext fun _ => funext fun _ => ?_)
  rw [bndS_bnd]
  refine congrArg _ (funext fun _ => funext fun _ => ?_)
  rw [bndS_bnd]
  refine congrArg _ (funext fun _ => funext fun _ => ?_)
  rw [bndS_ob]
  refine congrArg _ (funext fun _ => ?_)
  rw [bndS_ob]
  rfl)
theorem j_slTop {l h : Option Int} (h1 : Rd Γ o x) (h3 : oSlT x l h = some z) (k : J Γ (K (.b z)) m po) : J Γ (cSlT o l h K) m po := k.to fun e he => ⟨e, he, by
  show (res e o).bind _ = _
  rw [h1 e he, Option.bind_some, h3]
  rfl⟩
end TM
set_option maxRecDepth 100000
namespace TM
open PySem L2 VL PySem.W PySem.SeqAt Datum
end TM
set_option maxRecDepth 100000
namespace TM
open PySem L2 VL PySem.W PySem.SeqAt Datum
variable {Γ Γ' Γ0 : Ctx} {α β τ : Type} {m : R α} {po : α → PO}
theorem keqL_ints : ∀ as bs : List Int, keqL (as.map toD) (bs.map toD) = decide (as = bs)
  | [], [] => rfl
  | [], _ :: _ => rfl
  | _ :: _, [] => rfl
  | a :: as, b :: bs => by
    show (decide (a = b) && keqL (as.map toD) (bs.map toD)) = _
    rw [keqL_ints as bs, ← Bool.decide_and]
    exact decide_eq_decide.mpr (by simp)
instance : KeyTT (Tup Int) := ⟨fun a => by
  show (a.items.map toD).all isK = true
  rw [List.all_map]
  exact List.all_eq_true.mpr fun _ _ => rfl, fun a b => by
  show keqL (a.items.map toD) (b.items.map toD) = _
  rw [keqL_ints]
  refine decide_eq_decide.mpr ⟨fun h => ?_, fun h => by rw [h]⟩
  cases a
  cases b
  cases h
  rfl⟩
section
variable [DecidableEq τ] [Datum τ] {t u : Tup τ}
def addU (t u : Tup τ) : Option (Tup τ) := if t.items.length + u.items.length ≤ big then some ⟨t.items ++ u.items⟩ else none
theorem x_addU : OpR oAdd (toD t) (toD u) (addU t u) fun z => .fr (toD z) := fun z hz => by
  unfold addU at hz
  split at hz
  · rename_i h
    cases hz
    show (if (t.items.map toD).length + (u.items.map toD).length ≤ big then some (B.fr (.tuple (t.items.map toD ++ u.items.map toD))) else none) = _
    rw [List.length_map, List.length_map, if_pos h, ← List.map_append]
    rfl
  · cases hz
theorem x_slU (t : Tup τ) (lo hi : Option Int) : oSlT (toD t) lo hi = some (.fr (toD (Tup.mk (cutD t.items lo hi)))) := by
  show some (B.fr (.tuple (cutD (t.items.map toD) lo hi))) = _
  unfold cutD
  rw [List.length_map, ← List.map_drop, ← List.map_take]
  rfl
end
def selET : PyData → Option (List PyData)
  | .tuple ds => some (enumL 0 ds)
  | _ => none
theorem j_iEnumT {f : FE} {K : List PyData → KC} (k : J Γ (cX f fun o => cIt selET o K) m po) : J Γ (cX (iEnumT f) K) m po := k.eq (funext fun e => by
  show bndS (bnd (f e) fun o e1 => (fz e1 o).bind fun p => match p.1 with
    | .tuple ds => some (Out.ok (enumL 0 ds) p.2)
    | _ => none) K = _
  rw [bndS_bnd]
  refine congrArg _ (funext fun a => funext fun e1 => ?_)
  rw [bndS_ob]
  refine congrArg _ (funext fun p => ?_)
  obtain ⟨d, e2⟩ := p
  cases d <;> rfl)
theorem selET_map [DecidableEq τ] [Datum τ] (t : Tup τ) : selET (toD t) = some ((enumT 0 t.items).map fun p => .tuple [.int p.1, toD p.2]) := by
  show some (enumL 0 (t.items.map toD)) = _
  rw [enumL_map]
def cPick (F1 F2 : Fn) (n : Nat) (as_ : FA) (o : O) (K : O → KC) : KC := fun e => match res e o with
  | some (.int k) => if k = 0 then cX (fCall F1 n [] as_) K e else if k = 1 then cX (fCall F2 n [] as_) K e else none
  | _ => none
theorem j_pick {fi : FE} {F1 F2 : Fn} {n : Nat} {as_ : FA} {K : O → KC} (k : J Γ (cX fi fun o => cPick F1 F2 n as_ o K) m po) : J Γ (cX (fPick fi F1 F2 n as_) K) m po := k.eq (funext fun e => by
  show bndS (bnd (fi e) fun o e1 => match res e1 o with
    | some (.int k) => if k = 0 then fCall F1 n [] as_ e1 else if k = 1 then fCall F2 n [] as_ e1 else none
    | _ => none) K = _
  rw [bndS_bnd]
  refine congrArg _ (funext fun a => funext fun e1 => ?_)
  show bndS (match res e1 a with
    | some (.int k) => if k = 0 then fCall F1 n [] as_ e1 else if k = 1 then fCall F2 n [] as_ e1 else none
    | _ => none) K = (match res e1 a with
    | some (.int k) => if k = 0 then cX (fCall F1 n [] as_) K e1 else if k = 1 then cX (fCall F2 n [] as_) K e1 else none
    | _ => none)
  cases res e1 a with
  | none => rfl
  | some d =>
    cases d with
    | int k =>
      dsimp only
      split
      · rfl
      · split <;> rfl
    | _ => rfl)
theorem j_pickI {F1 F2 : Fn} {n : Nat} {as_ : FA} {o : O} {K : O → KC} {k : Int} {m0 m1 : R α} (hr : Rd Γ o (toD k)) (h0 : J Γ (cX (fCall F1 n [] as_) K) m0 po) (h1 : J Γ (cX (fCall F2 n [] as_) K) m1 po) : J Γ (cPick F1 F2 n as_ o K) (if k = 0 then m0 else if k = 1 then m1 else .no) po := by
  have e1 : ∀ e, Cov Γ e → cPick F1 F2 n as_ o K e = if k = 0 then cX (fCall F1 n [] as_) K e else if k = 1 then cX (fCall F2 n [] as_) K e else none := fun e he => by
    unfold cPick
    rw [hr e he]
    rfl
  by_cases c0 : k = 0
  · rw [if_pos c0]
    exact h0.to fun e he => ⟨e, he, by rw [e1 e he, if_pos c0]⟩
  · rw [if_neg c0]
    by_cases c1 : k = 1
    · rw [if_pos c1]
      exact h1.to fun e he => ⟨e, he, by rw [e1 e he, if_neg c0, if_pos c1]⟩
    · rw [if_neg c1]
      exact fun _ _ => trivial
end TM
set_option maxRecDepth 100000
namespace TM
open PySem L2 VL VP PySem.W PySem.SeqAt Datum
variable {Γ : Ctx} {α : Type} {po : α → PO} {f : FE} {m : R α}
theorem j_tt (k : J Γ (cX f kF) m po) : J Γ (cX tTrue fun b => match b with
  | true => cX f kF
  | false => kSkip) m po := k
end TM
set_option maxRecDepth 100000
set_option maxHeartbeats 0
namespace TM
open PySem VL VP PySem.W.Datum PySem.SeqAt
open PySem.W (Datum Tup)
open L2 (atI ixN)
def m_is_whole (thing : Int) : R Bool :=
  .ok ((true && (!false)))
theorem sim_is_whole (thing : Int) : FnS h_is_whole [.fr (toD (thing : Int))] (m_is_whole thing) (fun a : Bool => .d (toD (a : Bool))) (fun a : Bool => []) :=
  fn_mk (n := 0) (rv := fun a : Bool => .d (toD (a : Bool))) (ss := [(.d (toD (thing : Int)))]) (Γe := fun a : Bool => [none]) rfl (.cons rfl All2.nil) rfl
  (j_last (j_ret (j_andVP (j_isi (j_var rfl (j_isi2 (b := true) (rd_d rfl) rfl (j_ko (l := [1]) rd_b rfl rfl)))) (j_notV (j_isi (j_var rfl (j_isi2 (b := false) (rd_d rfl) rfl (j_bool rd_b (j_kob (l := [1]) rfl rfl)))))) (j_retb (l := [0]) sl_d rfl rfl)))) (fun a p hp => nomatch hp)
end TM
set_option maxRecDepth 100000
set_option maxHeartbeats 0
namespace TM
open PySem VL VP PySem.W.Datum PySem.SeqAt
open PySem.W (Datum Tup)
open L2 (atI ixN)
def m_need_way (way : Str) : R Unit :=
  if (false || (!decide (way ∈ (["swap", "spot", "shift"] : List Str)))) = true then
  (.ex "NoWay")
  else
  (.ok ())
theorem sim_need_way (way : Str) : FnS h_need_way [.fr (toD (way : Str))] (m_need_way way) (fun _ => .d .none) (fun a : Unit => []) :=
  fn_mkN (n := 0) (ss := [(.d (toD (way : Str)))]) (Γe := fun a : Unit => [none]) rfl (.cons rfl All2.nil) rfl
  (j_last (j_if (j_or (j_not (j_test (j_isi (j_var rfl (j_isi2 (b := true) (rd_d rfl) rfl (j_bool rd_b (j_kb (l := [1]) rfl rfl))))))) (j_test (j_inT (j_var rfl (j_inT2 (rd_d rfl)  (j_bool rd_b (j_kb (l := [1]) rfl rfl)))))) (j_ite j_seqRaise (j_seqNil (j_nilF (l := [0]) rfl rfl)))))) (fun a p hp => nomatch hp)
end TM
set_option maxRecDepth 100000
set_option maxHeartbeats 0
namespace TM
open PySem VL VP PySem.W.Datum PySem.SeqAt
open PySem.W (Datum Tup)
open L2 (atI ixN)
end TM
set_option maxRecDepth 100000
set_option maxHeartbeats 0
namespace TM
open PySem VL VP PySem.W.Datum PySem.SeqAt
open PySem.W (Datum Tup T3)
open L2 (atI ixN)
def m_need_reach (r : Int) : R Unit :=
  R.bind (R.bind (m_is_whole r) fun v5 =>
  if (!v5) = true then
  (.ok true)
  else
  (.ok ((decide (r < (0 : Int)))))) fun b4 =>
  if b4 = true then
  (.ex "NoNumber")
  else
  (.ok ())
theorem sim_need_reach (r : Int) : FnS h_need_reach [.fr (toD (r : Int))] (m_need_reach r) (fun _ => .d .none) (fun a : Unit => []) :=
  fn_mkN (n := 0) (ss := [(.d (toD (r : Int)))]) (Γe := fun a : Unit => [none]) rfl (.cons rfl All2.nil) rfl
  (j_last (j_if (j_sub (bv := fun b4 : Bool => b4) (Γ1 := fun b4 : Bool => [some (.d (toD (r : Int)))]) (j_orC (j_not (j_test (j_callP (j_aP (j_var rfl (j_aPs (j_anil (j_callPop rfl (la_d rfl la_nil) rfl (sim_is_whole r) (fun _ => rfl) fun v5 => (j_bool rd_b (j_ite (j_kb (l := [1]) rfl rfl) (j_test (j_bin (j_var rfl (j_c (j_op (rd_d rfl) rd_b x_lt (j_bool rd_b (j_kb (l := [1]) rfl rfl)))))))))))))))))) fun b4 => (j_ite j_seqRaise (j_seqNil (j_nilF (l := [0]) rfl rfl)))))) (fun a p hp => nomatch hp)
def m_need_things (n : Int) : R Unit :=
  R.bind (R.bind (m_is_whole n) fun v5 =>
  if (!v5) = true then
  (.ok true)
  else
  (.ok ((!((decide ((1 : Int) ≤ n)) && (decide (n ≤ (12 : Int)))))))) fun b4 =>
  if b4 = true then
  (.ex "NoNumber")
  else
  (.ok ())
theorem sim_need_things (n : Int) : FnS h_need_things [.fr (toD (n : Int))] (m_need_things n) (fun _ => .d .none) (fun a : Unit => []) :=
  fn_mkN (n := 0) (ss := [(.d (toD (n : Int)))]) (Γe := fun a : Unit => [none]) rfl (.cons rfl All2.nil) rfl
  (j_last (j_if (j_sub (bv := fun b4 : Bool => b4) (Γ1 := fun b4 : Bool => [some (.d (toD (n : Int)))]) (j_orC (j_not (j_test (j_callP (j_aP (j_var rfl (j_aPs (j_anil (j_callPop rfl (la_d rfl la_nil) rfl (sim_is_whole n) (fun _ => rfl) fun v5 => (j_bool rd_b (j_ite (j_kb (l := [1]) rfl rfl) (j_not (j_test (j_chain (j_c (j_var rfl (j_chain3 rd_b (rd_d rfl) x_le (j_c (j_ko (l := [1]) rd_b rfl rfl)) x_le (j_bool rd_b (j_kb (l := [1]) rfl rfl))))))))))))))))))) fun b4 => (j_ite j_seqRaise (j_seqNil (j_nilF (l := [0]) rfl rfl)))))) (fun a p hp => nomatch hp)
def m_by_spot (n : Int) : R ((List Int)) :=
  R.bind (ob (rg2 ((2 : Int)) ((n + (1 : Int)))) fun xs1 =>
  foldM (fun (s10 : (List Int)) (x11 : Int) =>
  ob (atI s10 ((-(1 : Int)))) fun v12 =>
  ob (atI s10 ((-(2 : Int)))) fun v13 =>
  ob (mulI ((x11 - (1 : Int))) ((v12 + v13))) fun v14 =>
  ob (appL s10 v14) fun v15 =>
  .ok v15) xs1 ([(1 : Int), (0 : Int)])) fun (s16 : (List Int)) =>
  R.bind (ob (rg1 ((n + (1 : Int)))) fun xs17 =>
  foldM (fun (s28 : (Int × (List Int))) (x29 : Int) =>
  ob (atI s16 x29) fun v30 =>
  ob (mulI s28.1 v30) fun v31 =>
  ob (appL s28.2 v31) fun v32 =>
  ob (mulI s28.1 ((n - x29))) fun v33 =>
  ob (fdivI v33 ((x29 + (1 : Int)))) fun v34 =>
  .ok ((v34, v32))) xs17 (((1 : Int), ([] : (List Int))))) fun (s35 : (Int × (List Int))) =>
  .ok s35.2
theorem sim_by_spot (n : Int) : FnS h_by_spot [.fr (toD (n : Int))] (m_by_spot n) (fun a : (List Int) => .o (toD (a : (List Int)))) (fun a : (List Int) => []) :=
  fn_mk (n := 4) (rv := fun a : (List Int) => .o (toD (a : (List Int)))) (ss := [(.d (toD (n : Int)))]) (Γe := fun a : (List Int) => [none, none, none, none, none]) rfl (.cons rfl All2.nil) rfl
  (j_own (j_lst (j_dcons (j_c (j_fz fz_b (j_dcons (j_c (j_fz fz_b (j_dnil (j_lst2 (toD ([(1 : Int), (0 : Int)] : (List Int))) rfl rfl (j_ownb (j_setO (j_seq (Γs := fun (s10 : (List Int)) => [some (.d (toD (n : Int))), some (.o (toD (s10 : (List Int)))), none, none, none]) (j_sFor (j_iRg2 (j_c (j_bin (j_var rfl (j_c (j_op (rd_d rfl) rd_b x_add (j_rg2 rd_b rd_b fun xs1 => (j_for (l := [1, 1, 0, 0, 0]) (D := toD) (Γs := fun (s10 : (List Int)) => [some (.d (toD (n : Int))), some (.o (toD (s10 : (List Int)))), none, none, none]) ([(1 : Int), (0 : Int)]) rfl (fun _ => rfl) fun s10 x11 => (j_gN (j_last (j_expr (j_mth (j_chk rfl rfl (j_dcons (j_bin (j_bin (j_var rfl (j_c (j_op (rd_d rfl) rd_b x_sub (j_bin (j_bin (j_var rfl (j_un (j_c (j_unop rd_b x_neg (j_opR (rd_o rfl) rd_b (x_ix (τ := Int)) fun v12 => (j_bin (j_var rfl (j_un (j_c (j_unop rd_b x_neg (j_opR (rd_o rfl) rd_b (x_ix (τ := Int)) fun v13 => (j_op rd_b rd_b x_add (j_opR rd_b rd_b x_mulR fun v14 => (j_fz fz_b (j_dnil (j_mthopR (z := fun _ => .fr .none) (es := fun a => a.map toD) (y := fun a => toD a) rfl (x_app (τ := Int)) (fun _ => rfl) fun v15 => (j_nil (l := [1, 1, 0, 0, 0]) rfl rfl))))))))))))))))))))))))))))))))))))))) fun s16 => (j_asg (j_c (j_fzb (fzb_of fz_b) (j_setD (j_own (j_lst (j_dnil (j_lst2 (toD (([] : (List Int)) : (List Int))) rfl rfl (j_ownb (j_setO (j_seq (Γs := fun (s28 : (Int × (List Int))) => [some (.d (toD (n : Int))), some (.o (toD (s16 : (List Int)))), none, some (.d (toD (s28.1 : Int))), some (.o (toD (s28.2 : (List Int))))]) (j_sFor (j_iRg1 (j_bin (j_var rfl (j_c (j_op (rd_d rfl) rd_b x_add (j_rg1 rd_b fun xs17 => (j_for (l := [1, 1, 0, 1, 1]) (D := toD) (Γs := fun (s28 : (Int × (List Int))) => [some (.d (toD (n : Int))), some (.o (toD (s16 : (List Int)))), none, some (.d (toD (s28.1 : Int))), some (.o (toD (s28.2 : (List Int))))]) (((1 : Int), ([] : (List Int)))) rfl (fun _ => rfl) fun s28 x29 => (j_gN (j_expr (j_mth (j_chk rfl rfl (j_dcons (j_bin (j_var rfl (j_bin (j_var rfl (j_var rfl (j_opR (rd_o rfl) (rd_d rfl) (x_ix (τ := Int)) fun v30 => (j_opR (rd_d rfl) rd_b x_mulR fun v31 => (j_fz fz_b (j_dnil (j_mthopR (z := fun _ => .fr .none) (es := fun a => a.map toD) (y := fun a => toD a) rfl (x_app (τ := Int)) (fun _ => rfl) fun v32 => (j_last (j_asg (j_bin (j_bin (j_var rfl (j_bin (j_var rfl (j_var rfl (j_op (rd_d rfl) (rd_d rfl) x_sub (j_opR (rd_d rfl) rd_b x_mulR fun v33 => (j_bin (j_var rfl (j_c (j_op (rd_d rfl) rd_b x_add (j_opR rd_b rd_b x_fdivR fun v34 => (j_fzb (fzb_of fz_b) (j_setD (j_nil (l := [1, 1, 0, 1, 1]) rfl rfl))))))))))))))))))))))))))))))))))))))))) fun s35 => (j_last (j_ret (j_var rfl (j_rets (l := [0, 0, 0, 0, 0]) rfl (fun _ => sl_id) rfl rfl)))))))))))))))))))))))))))) (fun a p hp => nomatch hp)
def m_by_swap (n : Int) : R ((List Int)) :=
  R.bind (ob (rg2 ((2 : Int)) ((n + (1 : Int)))) fun xs1 =>
  foldM (fun (s52 : (List Int)) (x53 : Int) =>
  ob (mulL ([(0 : Int)]) ((((s52.length : Int) + x53) - (1 : Int)))) fun v54 =>
  R.bind (foldM (fun (s69 : (List Int)) (x70 : (Int × Int)) =>
  R.bind (ob (rg1 x53) fun xs71 =>
  foldM (fun (s74 : (List Int)) (x75 : Int) =>
  ob (augL s74 ((x70.1 + x75)) x70.2) fun v76 =>
  .ok v76) xs71 s69) fun (s77 : (List Int)) =>
  .ok s77) ((enumT 0 s52)) v54) fun (s78 : (List Int)) =>
  .ok s78) xs1 ([(1 : Int)])) fun (s79 : (List Int)) =>
  .ok s79
theorem sim_by_swap (n : Int) : FnS h_by_swap [.fr (toD (n : Int))] (m_by_swap n) (fun a : (List Int) => .d (toD (a : (List Int)))) (fun a : (List Int) => []) :=
  fn_mk (n := 6) (rv := fun a : (List Int) => .d (toD (a : (List Int)))) (ss := [(.d (toD (n : Int)))]) (Γe := fun a : (List Int) => [none, none, none, none, none, none, none]) rfl (.cons rfl All2.nil) rfl
  (j_re (Γ' := [some (.d (toD (n : Int))), none, none, none, none, none, none]) rfl (j_own (j_lst (j_dcons (j_c (j_fz fz_b (j_dnil (j_lst2 (toD ([(1 : Int)] : (List Int))) rfl rfl (j_ownb (j_setO (j_re (Γ' := [some (.d (toD (n : Int))), some (.o (toD ([(1 : Int)] : (List Int)))), none, none, none, none, none]) rfl (j_seq (Γs := fun (s52 : (List Int)) => [some (.d (toD (n : Int))), some (.d (toD (s52 : (List Int)))), none, none, none, none, none]) (j_sFor (j_iRg2 (j_c (j_bin (j_var rfl (j_c (j_op (rd_d rfl) rd_b x_add (j_rg2 rd_b rd_b fun xs1 => (j_for (l := [1, 2, 0, 0, 0, 0, 0]) (D := toD) (Γs := fun (s52 : (List Int)) => [some (.d (toD (n : Int))), some (.d (toD (s52 : (List Int)))), none, none, none, none, none]) ([(1 : Int)]) rfl (fun _ => rfl) fun s52 x53 => (j_gN (j_re (Γ' := [some (.d (toD (n : Int))), some (.d (toD (s52 : (List Int)))), some (.d (toD (x53 : Int))), none, none, none, none]) rfl (j_own (j_bin (j_lst (j_dcons (j_c (j_fz fz_b (j_dnil (j_lst2 (toD ([(0 : Int)] : (List Int))) rfl rfl (j_bin (j_bin (j_cb (j_acons (j_var rfl (j_anil (j_cbop (ra_cons (rd_d rfl) ra_nil) (x_len (τ := Int)) (j_var rfl (j_op rd_b (rd_d rfl) x_add (j_c (j_op rd_b rd_b x_sub (j_opR rd_w rd_b (x_mulL (τ := Int)) fun v54 => (j_ownb (j_setO (j_re (Γ' := [some (.d (toD (n : Int))), some (.d (toD (s52 : (List Int)))), some (.d (toD (x53 : Int))), some (.o (toD (v54 : (List Int)))), none, none, none]) rfl (j_seq (Γs := fun (s69 : (List Int)) => [some (.d (toD (n : Int))), some (.d (toD (s52 : (List Int)))), some (.d (toD (x53 : Int))), some (.o (toD (s69 : (List Int)))), none, none, none]) (j_sFor (j_iEnum (j_var rfl (j_it (fz_d rfl) (selE_map toD _) (j_for (l := [1, 1, 1, 1, 0, 0, 0]) (D := toD) (Γs := fun (s69 : (List Int)) => [some (.d (toD (n : Int))), some (.d (toD (s52 : (List Int)))), some (.d (toD (x53 : Int))), some (.o (toD (s69 : (List Int)))), none, none, none]) v54 rfl (fun _ => rfl) fun s69 x70 => (j_gT2 (j_last (j_re (Γ' := [some (.d (toD (n : Int))), some (.d (toD (s52 : (List Int)))), some (.d (toD (x53 : Int))), some (.o (toD (s69 : (List Int)))), some (.d (toD (x70.1 : Int))), some (.d (toD (x70.2 : Int))), none]) rfl (j_seq (Γs := fun (s74 : (List Int)) => [some (.d (toD (n : Int))), some (.d (toD (s52 : (List Int)))), some (.d (toD (x53 : Int))), some (.o (toD (s74 : (List Int)))), some (.d (toD (x70.1 : Int))), some (.d (toD (x70.2 : Int))), none]) (j_sFor (j_iRg1 (j_var rfl (j_rg1 (rd_d rfl) fun xs71 => (j_for (l := [1, 1, 1, 1, 1, 1, 0]) (D := toD) (Γs := fun (s74 : (List Int)) => [some (.d (toD (n : Int))), some (.d (toD (s52 : (List Int)))), some (.d (toD (x53 : Int))), some (.o (toD (s74 : (List Int)))), some (.d (toD (x70.1 : Int))), some (.d (toD (x70.2 : Int))), none]) s69 rfl (fun _ => rfl) fun s74 x75 => (j_gN (j_last (j_re (Γ' := [some (.d (toD (n : Int))), some (.d (toD (s52 : (List Int)))), some (.d (toD (x53 : Int))), some (.o (toD (s74 : (List Int)))), some (.d (toD (x70.1 : Int))), some (.d (toD (x70.2 : Int))), some (.d (toD (x75 : Int)))]) rfl (j_augAt (j_has rfl (j_bin (j_var rfl (j_var rfl (j_op (rd_d rfl) (rd_d rfl) x_add (j_augAt1 (y := fun a => toD a) rfl rd_b (j_var rfl (j_ko (l := [1, 1, 1, 1, 1, 1, 1]) (rd_d rfl) rfl rfl)) x_augL fun v76 => (j_nil (l := [1, 1, 1, 1, 1, 1, 0]) rfl rfl)))))))))))))))) fun s77 => (j_nil (l := [1, 1, 1, 1, 0, 0, 0]) rfl rfl)))))))))) fun s78 => (j_last (j_re (Γ' := [some (.d (toD (n : Int))), some (.d (toD (s52 : (List Int)))), some (.d (toD (x53 : Int))), some (.o (toD (s78 : (List Int)))), none, none, none]) rfl (j_asg (j_var rfl (j_fzb (fzb_of (fz_o rfl)) (j_setD (j_nil (l := [1, 1, 0, 0, 0, 0, 0]) rfl rfl)))))))))))))))))))))))))))))))))))))))))) fun s79 => (j_last (j_re (Γ' := [some (.d (toD (n : Int))), some (.d (toD (s79 : (List Int)))), none, none, none, none, none]) rfl (j_ret (j_var rfl (j_rets (l := [0, 0, 0, 0, 0, 0, 0]) rfl (fun _ => sl_id) rfl rfl))))))))))))))))) (fun a p hp => nomatch hp)
def m_shifted_within (n : Int) (r : Int) : R Int :=
  R.bind (ob (rg1 n) fun xs1 =>
  foldM (fun (s158 : (List (Int × Int))) (x159 : Int) =>
  R.bind (foldM (fun (s210 : (List (Int × Int))) (x211 : (Int × Int)) =>
  R.bind (ob (rg2 ((max2 ((0 : Int)) ((x159 - r)))) ((min2 n (((x159 + r) + (1 : Int)))))) fun xs212 =>
  foldM (fun (s227 : (List (Int × Int))) (x228 : Int) =>
  R.bind (ob (shrI x211.1 x228) fun v233 =>
  if (decide ((Builtin.bitAnd v233 ((1 : Int))) = (0 : Int))) = true then
  (ob (shlI ((1 : Int)) x228) fun v234 =>
  ob (putG s227 ((Builtin.bitOr x211.1 v234)) ((((lookT s227 ((Builtin.bitOr x211.1 v234))).getD ((0 : Int))) + x211.2))) fun v235 =>
  .ok v235)
  else
  (.ok s227)) fun (s232 : (List (Int × Int))) =>
  .ok s232) xs212 s210) fun (s236 : (List (Int × Int))) =>
  .ok s236) s158 (([] : (List (Int × Int))))) fun (s237 : (List (Int × Int))) =>
  .ok s237) xs1 ((mergeT ([((0 : Int), (1 : Int))] : (List (Int × Int)))))) fun (s238 : (List (Int × Int))) =>
  .ok ((((s238.map (·.2))).sum))
theorem sim_shifted_within (n : Int) (r : Int) : FnS h_shifted_within [.fr (toD (n : Int)), .fr (toD (r : Int))] (m_shifted_within n r) (fun a : Int => .d (toD (a : Int))) (fun a : Int => []) :=
  fn_mk (n := 7) (rv := fun a : Int => .d (toD (a : Int))) (ss := [(.d (toD (n : Int))), (.d (toD (r : Int)))]) (Γe := fun a : Int => [none, none, none, none, none, none, none, none, none]) rfl (.cons rfl (.cons rfl All2.nil)) rfl
  (j_re (Γ' := [some (.d (toD (n : Int))), some (.d (toD (r : Int))), none, none, none, none, none, none, none]) rfl (j_asg (j_disp (j_pcons (j_c (j_key rd_b rfl (j_c (j_fz fz_b (j_pnil (j_disp2 (κ := Int) (υ := Int) [((0 : Int), (1 : Int))] rfl rfl (j_fzb (fzb_of fz_w) (j_setD (j_re (Γ' := [some (.d (toD (n : Int))), some (.d (toD (r : Int))), some (.d (dD ((mergeT ([((0 : Int), (1 : Int))] : (List (Int × Int)))) : (List (Int × Int))))), none, none, none, none, none, none]) rfl (j_seq (Γs := fun (s158 : (List (Int × Int))) => [some (.d (toD (n : Int))), some (.d (toD (r : Int))), some (.d (dD (s158 : (List (Int × Int))))), none, none, none, none, none, none]) (j_sFor (j_iRg1 (j_var rfl (j_rg1 (rd_d rfl) fun xs1 => (j_for (l := [1, 1, 1, 0, 0, 0, 0, 0, 0]) (D := toD) (Γs := fun (s158 : (List (Int × Int))) => [some (.d (toD (n : Int))), some (.d (toD (r : Int))), some (.d (dD (s158 : (List (Int × Int))))), none, none, none, none, none, none]) ((mergeT ([((0 : Int), (1 : Int))] : (List (Int × Int))))) rfl (fun _ => rfl) fun s158 x159 => (j_gN (j_re (Γ' := [some (.d (toD (n : Int))), some (.d (toD (r : Int))), some (.d (dD (s158 : (List (Int × Int))))), some (.d (toD (x159 : Int))), none, none, none, none, none]) rfl (j_own (j_dnew (κ := Int) (υ := Int) (j_ownb (j_setO (j_re (Γ' := [some (.d (toD (n : Int))), some (.d (toD (r : Int))), some (.d (dD (s158 : (List (Int × Int))))), some (.d (toD (x159 : Int))), some (.o (dD (([] : (List (Int × Int))) : (List (Int × Int))))), none, none, none, none]) rfl (j_seq (Γs := fun (s210 : (List (Int × Int))) => [some (.d (toD (n : Int))), some (.d (toD (r : Int))), some (.d (dD (s158 : (List (Int × Int))))), some (.d (toD (x159 : Int))), some (.o (dD (s210 : (List (Int × Int))))), none, none, none, none]) (j_sFor (j_iSeq (j_un (j_var rfl (j_unop (rd_d rfl) (x_items (κ := Int) (υ := Int)) (j_it fz_w rfl (j_for (l := [1, 1, 1, 1, 1, 0, 0, 0, 0]) (D := toD) (Γs := fun (s210 : (List (Int × Int))) => [some (.d (toD (n : Int))), some (.d (toD (r : Int))), some (.d (dD (s158 : (List (Int × Int))))), some (.d (toD (x159 : Int))), some (.o (dD (s210 : (List (Int × Int))))), none, none, none, none]) (([] : (List (Int × Int)))) rfl (fun _ => rfl) fun s210 x211 => (j_gT2 (j_last (j_re (Γ' := [some (.d (toD (n : Int))), some (.d (toD (r : Int))), some (.d (dD (s158 : (List (Int × Int))))), some (.d (toD (x159 : Int))), some (.o (dD (s210 : (List (Int × Int))))), some (.d (toD (x211.1 : Int))), some (.d (toD (x211.2 : Int))), none, none]) rfl (j_seq (Γs := fun (s227 : (List (Int × Int))) => [some (.d (toD (n : Int))), some (.d (toD (r : Int))), some (.d (dD (s158 : (List (Int × Int))))), some (.d (toD (x159 : Int))), some (.o (dD (s227 : (List (Int × Int))))), some (.d (toD (x211.1 : Int))), some (.d (toD (x211.2 : Int))), none, none]) (j_sFor (j_iRg2 (j_cb (j_acons (j_c (j_acons (j_bin (j_var rfl (j_var rfl (j_op (rd_d rfl) (rd_d rfl) x_sub (j_anil (j_cbop (ra_cons rd_b (ra_cons rd_b ra_nil)) x_max2 (j_cb (j_acons (j_var rfl (j_acons (j_bin (j_bin (j_var rfl (j_var rfl (j_op (rd_d rfl) (rd_d rfl) x_add (j_c (j_op rd_b rd_b x_add (j_anil (j_cbop (ra_cons (rd_d rfl) (ra_cons rd_b ra_nil)) x_min2 (j_rg2 rd_b rd_b fun xs212 => (j_for (l := [1, 1, 1, 1, 1, 1, 1, 0, 0]) (D := toD) (Γs := fun (s227 : (List (Int × Int))) => [some (.d (toD (n : Int))), some (.d (toD (r : Int))), some (.d (dD (s158 : (List (Int × Int))))), some (.d (toD (x159 : Int))), some (.o (dD (s227 : (List (Int × Int))))), some (.d (toD (x211.1 : Int))), some (.d (toD (x211.2 : Int))), none, none]) s210 rfl (fun _ => rfl) fun s227 x228 => (j_gN (j_last (j_re (Γ' := [some (.d (toD (n : Int))), some (.d (toD (r : Int))), some (.d (dD (s158 : (List (Int × Int))))), some (.d (toD (x159 : Int))), some (.o (dD (s227 : (List (Int × Int))))), some (.d (toD (x211.1 : Int))), some (.d (toD (x211.2 : Int))), some (.d (toD (x228 : Int))), none]) rfl (j_seq (Γs := fun (s232 : (List (Int × Int))) => [some (.d (toD (n : Int))), some (.d (toD (r : Int))), some (.d (dD (s158 : (List (Int × Int))))), some (.d (toD (x159 : Int))), some (.o (dD (s232 : (List (Int × Int))))), some (.d (toD (x211.1 : Int))), some (.d (toD (x211.2 : Int))), some (.d (toD (x228 : Int))), none]) (j_if1 (j_test (j_bin (j_bin (j_bin (j_var rfl (j_var rfl (j_opR (rd_d rfl) (rd_d rfl) x_shrR fun v233 => (j_c (j_op rd_b rd_b x_band (j_c (j_op rd_b rd_b (x_eq (τ := Int)) (j_bool rd_b (j_ite (j_re (Γ' := [some (.d (toD (n : Int))), some (.d (toD (r : Int))), some (.d (dD (s158 : (List (Int × Int))))), some (.d (toD (x159 : Int))), some (.o (dD (s227 : (List (Int × Int))))), some (.d (toD (x211.1 : Int))), some (.d (toD (x211.2 : Int))), some (.d (toD (x228 : Int))), none]) rfl (j_asg (j_bin (j_var rfl (j_bin (j_c (j_var rfl (j_opR rd_b (rd_d rfl) x_shlR fun v234 => (j_op (rd_d rfl) rd_b x_bor (j_fzb (fzb_of fz_b) (j_setD (j_last (j_re (Γ' := [some (.d (toD (n : Int))), some (.d (toD (r : Int))), some (.d (dD (s158 : (List (Int × Int))))), some (.d (toD (x159 : Int))), some (.o (dD (s227 : (List (Int × Int))))), some (.d (toD (x211.1 : Int))), some (.d (toD (x211.2 : Int))), some (.d (toD (x228 : Int))), some (.d (toD ((Builtin.bitOr x211.1 v234) : Int)))]) rfl (j_putD (j_bin (j_dget2 (j_var rfl (j_dis (κ := Int) (υ := Int) (rd_o rfl) (j_var rfl (j_c (j_dget2op (κ := Int) (υ := Int) (rd_o rfl) (rd_d rfl) rd_b rfl (j_var rfl (j_op rd_b (rd_d rfl) x_add (j_fz fz_b (j_has rfl (j_var rfl (j_putDop (κ := Int) (υ := Int) rfl (rd_d rfl) fun v235 => (j_nil (l := [1, 1, 1, 1, 1, 1, 1, 1, 0]) rfl rfl)))))))))))))))))))))))))))) (j_nil (l := [1, 1, 1, 1, 1, 1, 1, 1, 0]) rfl rfl))))))))))))))) fun s232 => (j_nil (l := [1, 1, 1, 1, 1, 1, 1, 0, 0]) rfl rfl)))))))))))))))))))))))))))))))) fun s236 => (j_nil (l := [1, 1, 1, 1, 1, 0, 0, 0, 0]) rfl rfl)))))))))))) fun s237 => (j_last (j_re (Γ' := [some (.d (toD (n : Int))), some (.d (toD (r : Int))), some (.d (dD (s158 : (List (Int × Int))))), some (.d (toD (x159 : Int))), some (.o (dD (s237 : (List (Int × Int))))), none, none, none, none]) rfl (j_asg (j_var rfl (j_fzb (fzb_of (fz_o rfl)) (j_setD (j_nil (l := [1, 1, 1, 0, 0, 0, 0, 0, 0]) rfl rfl)))))))))))))))))))) fun s238 => (j_last (j_re (Γ' := [some (.d (toD (n : Int))), some (.d (toD (r : Int))), some (.d (dD (s238 : (List (Int × Int))))), none, none, none, none, none, none]) rfl (j_ret (j_cb (j_acons (j_un (j_var rfl (j_unop (rd_d rfl) (x_vals (κ := Int) (υ := Int)) (j_anil (j_cbop (ra_cons rd_w ra_nil) x_sum (j_retb (l := [0, 0, 0, 0, 0, 0, 0, 0, 0]) sl_d rfl rfl))))))))))))))))))))))))) (fun a p hp => nomatch hp)
def m_within_by (way : Str) (n : Int) (r : Int) : R Int :=
  if (decide (r < (0 : Int))) = true then
  (.ok ((0 : Int)))
  else
  (ob (eqG way (("shift" : Str))) fun v1 =>
  if v1 = true then
  (R.bind (m_shifted_within n ((min2 r ((n - (1 : Int)))))) fun v2 =>
  .ok v2)
  else
  (R.bind (m_by_spot n) fun v3 =>
  R.bind (ob (eqG way (("swap" : Str))) fun v8 =>
  if v8 = true then
  (R.bind (m_by_swap n) fun v9 =>
  .ok v9)
  else
  (.ok v3)) fun (s7 : (List Int)) =>
  ob (mulI n n) fun v11 =>
  .ok ((((cutD s7 none (some ((min2 r v11) + (1 : Int))))).sum))))
theorem sim_within_by (way : Str) (n : Int) (r : Int) : FnS h_within_by [.fr (toD (way : Str)), .fr (toD (n : Int)), .fr (toD (r : Int))] (m_within_by way n r) (fun a : Int => .d (toD (a : Int))) (fun a : Int => []) :=
  fn_mk (n := 1) (rv := fun a : Int => .d (toD (a : Int))) (ss := [(.d (toD (way : Str))), (.d (toD (n : Int))), (.d (toD (r : Int)))]) (Γe := fun a : Int => [none, none, none, none]) rfl (.cons rfl (.cons rfl (.cons rfl All2.nil))) rfl
  (j_if (j_test (j_bin (j_var rfl (j_c (j_op (rd_d rfl) rd_b x_lt (j_bool rd_b (j_ite (j_ret (j_c (j_retb (l := [0, 0, 0, 0]) sl_d rfl rfl))) (j_seqNil (j_if (j_test (j_bin (j_var rfl (j_c (j_opR (rd_d rfl) rd_b (x_eqG (τ := Str)) fun v1 => (j_bool rd_b (j_ite (j_ret (j_callP (j_aP (j_var rfl (j_aPs (j_aP (j_cb (j_acons (j_var rfl (j_acons (j_bin (j_var rfl (j_c (j_op (rd_d rfl) rd_b x_sub (j_anil (j_cbop (ra_cons (rd_d rfl) (ra_cons rd_b ra_nil)) x_min2 (j_aPb (j_anil (j_callPop rfl (la_d rfl (la_b la_nil)) rfl (sim_shifted_within n ((min2 r ((n - (1 : Int)))))) (fun _ => rfl) fun v2 => (j_retb (l := [0, 0, 0, 0]) sl_d rfl rfl)))))))))))))))))))) (j_seqNil (j_asg (j_call (j_aF (j_var rfl (j_fzb (fzb_of (fz_d rfl)) (j_anil (j_callO rfl (ba_b ba_nil) (sim_by_spot n) (fun _ => rfl) fun v3 => (j_fzb (fzb_of fz_w) (j_setD (j_seq (Γs := fun (s7 : (List Int)) => [some (.d (toD (way : Str))), some (.d (toD (n : Int))), some (.d (toD (r : Int))), some (.d (toD (s7 : (List Int))))]) (j_if1 (j_test (j_bin (j_var rfl (j_c (j_opR (rd_d rfl) rd_b (x_eqG (τ := Str)) fun v8 => (j_bool rd_b (j_ite (j_last (j_asg (j_call (j_aF (j_var rfl (j_fzb (fzb_of (fz_d rfl)) (j_anil (j_callD rfl (ba_b ba_nil) (sim_by_swap n) (fun _ => rfl) fun v9 bh10 h10 => (j_fzb (fzb_of (fz_any h10)) (j_setD (j_nil (l := [1, 1, 1, 1]) rfl rfl))))))))))) (j_nil (l := [1, 1, 1, 1]) rfl rfl))))))))) fun s7 => (j_last (j_ret (j_cb (j_acons (j_sl (j_var rfl (j_ono (j_osome (j_bin (j_cb (j_acons (j_var rfl (j_acons (j_bin (j_var rfl (j_var rfl (j_opR (rd_d rfl) (rd_d rfl) x_mulR fun v11 => (j_anil (j_cbop (ra_cons (rd_d rfl) (ra_cons rd_b ra_nil)) x_min2 (j_c (j_op rd_b rd_b x_add (j_int rd_b (j_slop (rd_d rfl) (x_sl (τ := Int)) (j_anil (j_cbop (ra_cons rd_w ra_nil) x_sum (j_retb (l := [0, 0, 0, 0]) sl_d rfl rfl)))))))))))))))))))))))))))))))))))))))))))))))))))))) (fun a p hp => nomatch hp)
def m_count_at (way : Str) (n : Int) (r : Int) : R Int :=
  R.bind (m_need_way way) fun v1 =>
  R.bind (m_need_things n) fun v2 =>
  R.bind (m_need_reach r) fun v3 =>
  R.bind (m_within_by way n r) fun v4 =>
  R.bind (m_within_by way n ((r - (1 : Int)))) fun v5 =>
  .ok ((v4 - v5))
theorem sim_count_at (way : Str) (n : Int) (r : Int) : FnS h_count_at [.fr (toD (way : Str)), .fr (toD (n : Int)), .fr (toD (r : Int))] (m_count_at way n r) (fun a : Int => .d (toD (a : Int))) (fun a : Int => []) :=
  fn_mk (n := 0) (rv := fun a : Int => .d (toD (a : Int))) (ss := [(.d (toD (way : Str))), (.d (toD (n : Int))), (.d (toD (r : Int)))]) (Γe := fun a : Int => [none, none, none]) rfl (.cons rfl (.cons rfl (.cons rfl All2.nil))) rfl
  (j_expr (j_callP (j_aP (j_var rfl (j_aPs (j_anil (j_callPop rfl (la_d rfl la_nil) rfl (sim_need_way way) (fun _ => rfl) fun v1 => (j_expr (j_callP (j_aP (j_var rfl (j_aPs (j_anil (j_callPop rfl (la_d rfl la_nil) rfl (sim_need_things n) (fun _ => rfl) fun v2 => (j_expr (j_callP (j_aP (j_var rfl (j_aPs (j_anil (j_callPop rfl (la_d rfl la_nil) rfl (sim_need_reach r) (fun _ => rfl) fun v3 => (j_last (j_ret (j_bin (j_callP (j_aP (j_var rfl (j_aPs (j_aP (j_var rfl (j_aPs (j_aP (j_var rfl (j_aPs (j_anil (j_callPop rfl (la_d rfl (la_d rfl (la_d rfl la_nil))) rfl (sim_within_by way n r) (fun _ => rfl) fun v4 => (j_callP (j_aP (j_var rfl (j_aPs (j_aP (j_var rfl (j_aPs (j_aP (j_bin (j_var rfl (j_c (j_op (rd_d rfl) rd_b x_sub (j_aPb (j_anil (j_callPop rfl (la_d rfl (la_d rfl (la_b la_nil))) rfl (sim_within_by way n ((r - (1 : Int)))) (fun _ => rfl) fun v5 => (j_op rd_b rd_b x_sub (j_retb (l := [0, 0, 0]) sl_d rfl rfl))))))))))))))))))))))))))))))))))))))))))))))))))))) (fun a p hp => nomatch hp)
def m_count_within (way : Str) (n : Int) (r : Int) : R Int :=
  R.bind (m_need_way way) fun v1 =>
  R.bind (m_need_things n) fun v2 =>
  R.bind (m_need_reach r) fun v3 =>
  R.bind (m_within_by way n r) fun v4 =>
  .ok v4
theorem sim_count_within (way : Str) (n : Int) (r : Int) : FnS h_count_within [.fr (toD (way : Str)), .fr (toD (n : Int)), .fr (toD (r : Int))] (m_count_within way n r) (fun a : Int => .d (toD (a : Int))) (fun a : Int => []) :=
  fn_mk (n := 0) (rv := fun a : Int => .d (toD (a : Int))) (ss := [(.d (toD (way : Str))), (.d (toD (n : Int))), (.d (toD (r : Int)))]) (Γe := fun a : Int => [none, none, none]) rfl (.cons rfl (.cons rfl (.cons rfl All2.nil))) rfl
  (j_expr (j_callP (j_aP (j_var rfl (j_aPs (j_anil (j_callPop rfl (la_d rfl la_nil) rfl (sim_need_way way) (fun _ => rfl) fun v1 => (j_expr (j_callP (j_aP (j_var rfl (j_aPs (j_anil (j_callPop rfl (la_d rfl la_nil) rfl (sim_need_things n) (fun _ => rfl) fun v2 => (j_expr (j_callP (j_aP (j_var rfl (j_aPs (j_anil (j_callPop rfl (la_d rfl la_nil) rfl (sim_need_reach r) (fun _ => rfl) fun v3 => (j_last (j_ret (j_callP (j_aP (j_var rfl (j_aPs (j_aP (j_var rfl (j_aPs (j_aP (j_var rfl (j_aPs (j_anil (j_callPop rfl (la_d rfl (la_d rfl (la_d rfl la_nil))) rfl (sim_within_by way n r) (fun _ => rfl) fun v4 => (j_retb (l := [0, 0, 0]) sl_d rfl rfl)))))))))))))))))))))))))))))))))))) (fun a p hp => nomatch hp)
end TM
set_option maxRecDepth 100000
namespace TM
open PySem VL VP PySem.SeqAt
open L2 (atI ixN)
/-- m tells some a with P a -/
def Sat {α : Type} (m : R α) (P : α → Prop) : Prop := ∃ a, m = .ok a ∧ P a
section
variable {α β σ τ υ γ : Type} {m : R α} {P Q : α → Prop}
theorem Sat.of {a : α} (h : m = .ok a) (p : P a) : Sat m P := ⟨a, h, p⟩
theorem sat_ok {a : α} (p : P a) : Sat (.ok a) P := ⟨a, rfl, p⟩
theorem Sat.mono (h : Sat m Q) (k : ∀ a, Q a → P a) : Sat m P := by
  obtain ⟨a, h1, h2⟩ := h
  exact ⟨a, h1, k a h2⟩
theorem sat_bind {k : α → R β} {P : β → Prop} (h : Sat m Q) (hk : ∀ a, Q a → Sat (k a) P) : Sat (m.bind k) P := by
  obtain ⟨a, rfl, h2⟩ := h
  exact hk a h2
theorem sat_iff {a : α} : Sat m (fun x => x = a) ↔ m = .ok a := ⟨fun ⟨b, h, e⟩ => e ▸ h, fun h => ⟨a, h, rfl⟩⟩
theorem Sat.eq {a : α} (h : Sat m fun x => x = a) : m = .ok a := sat_iff.mp h
theorem sat_ite {b : Bool} {m1 m2 : R α} (h1 : b = true → Sat m1 P) (h2 : b = false → Sat m2 P) : Sat (if b = true then m1 else m2) P := by
  cases b with
  | true => exact h1 rfl
  | false => exact h2 rfl
theorem sat_foldM {mb : σ → τ → R σ} (I : Nat → σ → Prop) : ∀ (xs : List τ) (k : Nat) (s : σ), I k s → (∀ i s (h : i < xs.length), I (k + i) s → Sat (mb s xs[i]) (I (k + i + 1))) → Sat (foldM mb xs s) (I (k + xs.length))
  | [], k, s, h, _ => sat_ok h
  | x :: xs, k, s, h, hb => by
    unfold foldM
    refine sat_bind (hb 0 s (by simp) h) fun s' h' => ?_
    have := sat_foldM I xs (k + 1) s' h' fun i s hi hs => by
      have := hb (i + 1) s (by simpa using hi) (by rw [show k + (i + 1) = k + 1 + i by omega]; exact hs)
      rw [show k + (i + 1) + 1 = k + 1 + i + 1 by omega] at this
      exact this
    rw [show k + (x :: xs).length = k + 1 + xs.length by rw [List.length_cons]; omega]
    exact this
/-- a loop that is never left before its end -/
theorem sat_loopI {mb : σ → τ → R (Fl σ γ)} (I : Nat → σ → Prop) : ∀ (xs : List τ) (k : Nat) (s : σ), I k s → (∀ i s (h : i < xs.length), I (k + i) s → Sat (mb s xs[i]) fun r => ∃ s', r = .nx s' ∧ I (k + i + 1) s') → Sat (loopM mb xs s) fun r => ∃ s', r = .nx s' ∧ I (k + xs.length) s'
  | [], k, s, h, _ => sat_ok ⟨s, rfl, h⟩
  | x :: xs, k, s, h, hb => by
    unfold loopM
    refine sat_bind (hb 0 s (by simp) h) fun r ⟨s', hr, h'⟩ => ?_
    subst hr
    have := sat_loopI I xs (k + 1) s' h' fun i s hi hs => by
      have := hb (i + 1) s (by simpa using hi) (by rw [show k + (i + 1) = k + 1 + i by omega]; exact hs)
      rw [show k + (i + 1) + 1 = k + 1 + i + 1 by omega] at this
      exact this
    rw [show k + (x :: xs).length = k + 1 + xs.length by rw [List.length_cons]; omega]
    exact this
theorem sat_loop {mb : σ → τ → R (Fl σ γ)} {xs : List τ} {s : σ} (I : σ → Prop) (h : I s) (hb : ∀ s x, x ∈ xs → I s → Sat (mb s x) fun r => ∃ s', r = .nx s' ∧ I s') : Sat (loopM mb xs s) fun r => ∃ s', r = .nx s' ∧ I s' :=
  sat_loopI (fun _ => I) xs 0 s h fun i s hi hs => hb s _ (List.getElem_mem hi) hs
/-- the loop's rest, where it is never left -/
theorem sat_out {mb : R (Fl σ γ)} {mk : σ → R γ} {I : σ → Prop} {P : γ → Prop} (h : Sat mb fun r => ∃ s', r = .nx s' ∧ I s') (hk : ∀ s, I s → Sat (mk s) P) : Sat (mb.bind (Fl.out mk)) P := by
  obtain ⟨r, rfl, s', rfl, h2⟩ := h
  exact hk s' h2
theorem sat_outF {mb : R (Fl σ γ)} {mk : σ → R (Fl β γ)} {I : σ → Prop} {P : Fl β γ → Prop} (h : Sat mb fun r => ∃ s', r = .nx s' ∧ I s') (hk : ∀ s, I s → Sat (mk s) P) : Sat (mb.bind (Fl.outF mk)) P := by
  obtain ⟨r, rfl, s', rfl, h2⟩ := h
  exact hk s' h2
theorem lcP_eq (p : τ → Bool) (f : τ → υ) {xs : List τ} (hl : xs.length ≤ big) : lcP p f xs = some ((xs.filter p).map f) := if_pos hl
theorem sat_while {mt : σ → R Bool} {mb : σ → R σ} (I : σ → Prop) (B : σ → Prop) (μ : σ → Nat) (ht : ∀ s, I s → Sat (mt s) fun b => (b = true ↔ B s)) (hb : ∀ s, I s → B s → Sat (mb s) fun s' => I s' ∧ μ s' < μ s) : ∀ (n : Nat) (s : σ), I s → μ s < n → Sat (whileM mt mb n s) fun s' => I s' ∧ ¬ B s'
  | 0, s, _, h => by omega
  | n + 1, s, hi, hm => by
    unfold whileM
    refine sat_bind (ht s hi) fun b hB => ?_
    cases b with
    | false => exact sat_ok ⟨hi, fun h => by cases hB.mpr h⟩
    | true =>
      refine sat_bind (m := mb s) (hb s hi (hB.mp rfl)) fun s' ⟨h1, h2⟩ => ?_
      exact sat_while I B μ ht hb n s' h1 (by omega)
end
theorem rngL_iota (n : Nat) : rngL 0 n = iota n := by
  unfold rngL iota
  exact List.map_congr_left fun i _ => by rw [Int.zero_add]
theorem rg1_nat {n : Nat} (h : n ≤ 1000000000) : rg1 (n : Int) = some (iota n) := by
  unfold rg1 lim
  rw [if_pos (decide_eq_true (by omega)), Int.toNat_natCast, rngL_iota]
theorem rg1_of {i : Int} (h : i.natAbs ≤ 1000000000) : rg1 i = some (iota i.toNat) := by
  unfold rg1 lim
  rw [if_pos (decide_eq_true (by omega)), rngL_iota]
theorem rg2_of {i j : Int} (hi : i.natAbs ≤ 1000000000) (hj : j.natAbs ≤ 1000000000) : rg2 i j = some (rngL i (j - i).toNat) := by
  unfold rg2 lim
  rw [if_pos ⟨decide_eq_true (by omega), decide_eq_true (by omega)⟩]
theorem lrg1_of {i : Int} (h : i.natAbs ≤ 1000000) : lrg1 i = some (iota i.toNat) := by
  unfold lrg1 rgOk big
  rw [if_pos (by rw [Bool.and_eq_true, Bool.and_eq_true, decide_eq_true_eq, decide_eq_true_eq, decide_eq_true_eq]; omega), rngL_iota]
theorem lrg1_nat {n : Nat} (h : n ≤ 1000000) : lrg1 (n : Int) = some (iota n) := by
  have := lrg1_of (i := (n : Int)) (by omega)
  rwa [Int.toNat_natCast] at this
theorem iota_len (n : Nat) : (iota n).length = n := by unfold iota; rw [List.length_map, List.length_range]
theorem iota_get {n i : Nat} (h : i < (iota n).length) : (iota n)[i] = (i : Int) := by
  simp [iota]
theorem mem_iota {n : Nat} {x : Int} : x ∈ iota n ↔ 0 ≤ x ∧ x < n := by
  unfold iota
  rw [List.mem_map]
  constructor
  · rintro ⟨i, hi, rfl⟩
    have := List.mem_range.mp hi
    omega
  · intro h
    exact ⟨x.toNat, List.mem_range.mpr (by omega), by omega⟩
theorem rngL_len (lo : Int) (n : Nat) : (rngL lo n).length = n := by unfold rngL; rw [List.length_map, List.length_range]
theorem rngL_get {lo : Int} {n i : Nat} (h : i < (rngL lo n).length) : (rngL lo n)[i] = lo + (i : Int) := by
  simp [rngL]
section
variable {τ : Type} {xs : List τ} {i : Int}
theorem ixN_of {n : Nat} {i : Int} (h0 : 0 ≤ i) (h1 : i < n) : ixN n i = some i.toNat := by
  unfold ixN
  rw [if_pos h0, if_pos h1]
theorem at_of (h0 : 0 ≤ i) (h1 : i < xs.length) : atI xs i = some (xs[i.toNat]'(by omega)) := by
  unfold atI
  rw [ixN_of h0 h1, Option.bind_some, List.getElem?_eq_getElem]
theorem appL_of {v : τ} (h : xs.length < big) : appL xs v = some (xs ++ [v]) := if_pos h
theorem addL_of {ys : List τ} (h : xs.length + ys.length ≤ big) : addL xs ys = some (xs ++ ys) := if_pos h
end
theorem modI_of {a b : Int} (h : 0 < b) : modI a b = some (a % b) := if_pos (decide_eq_true h)
theorem mulI_l {a b : Int} (h : a.natAbs < 2 ^ 64) : mulI a b = some (a * b) := by
  unfold mulI cMul
  rw [if_pos (by rw [decide_eq_true h]; rfl)]
/-- the law's answer, by its mirror -/
theorem law_of {F : Fn} {ns : List Int} {m : R Bool} {ch : Bool → List (Nat × Sl)} (h : FnS F [.sc ns] m (fun a => .d (W.Datum.toD a)) ch) (hm : Sat m fun b => b = true) : ∃ e, F [.sc ns] = some (.ret (.fr (.bool true)) e) := by
  have := hm.eq
  subst this
  obtain ⟨b, e, h1, h2, _⟩ := h
  have := solid_fr (b := b) h2 rfl
  subst this
  exact ⟨e, h1⟩
end TM
set_option maxRecDepth 100000
namespace D
open VP (iota IsOrd)
def sm : Nat → (Nat → Nat) → Nat
  | 0, _ => 0
  | n + 1, f => sm n f + f n
def bn (b : Bool) : Nat := if b = true then 1 else 0
theorem sm_congr {f g : Nat → Nat} : ∀ {n : Nat}, (∀ i, i < n → f i = g i) → sm n f = sm n g
  | 0, _ => rfl
  | n + 1, h => by
    show sm n f + f n = sm n g + g n
    rw [sm_congr fun i hi => h i (by omega), h n (by omega)]
theorem sm_zero : ∀ (n : Nat), sm n (fun _ => 0) = 0
  | 0 => rfl
  | n + 1 => by show sm n _ + 0 = 0; rw [sm_zero n]
theorem sm_const (c : Nat) : ∀ (n : Nat), sm n (fun _ => c) = n * c
  | 0 => by simp [sm]
  | n + 1 => by show sm n _ + c = _; rw [sm_const c n, Nat.add_mul]; omega
theorem sm_add {f g : Nat → Nat} : ∀ (n : Nat), sm n (fun i => f i + g i) = sm n f + sm n g
  | 0 => rfl
  | n + 1 => by show sm n _ + (f n + g n) = sm n f + f n + (sm n g + g n); rw [sm_add n]; omega
theorem sm_mul (c : Nat) {f : Nat → Nat} : ∀ (n : Nat), sm n (fun i => c * f i) = c * sm n f
  | 0 => rfl
  | n + 1 => by show sm n _ + c * f n = c * (sm n f + f n); rw [sm_mul c n, Nat.mul_add]
/-- a one-to-one change of names below n, with the way back -/
structure Bij (n : Nat) (π ρ : Nat → Nat) : Prop where
  lt : ∀ i, i < n → π i < n
  lt' : ∀ i, i < n → ρ i < n
  l : ∀ i, i < n → ρ (π i) = i
  r : ∀ i, i < n → π (ρ i) = i
theorem Bij.symm {n : Nat} {π ρ : Nat → Nat} (h : Bij n π ρ) : Bij n ρ π := ⟨h.lt', h.lt, h.r, h.l⟩
def mx : Nat → (Nat → Nat) → Nat
  | 0, _ => 0
  | n + 1, f => max (mx n f) (f n)
/-- ordered pairs that h has one way and g the other -/
def inv (n : Nat) (h g : Nat → Nat) : Nat := sm n fun a => sm n fun b => bn (decide (h a < h b) && decide (g b < g a))
/-- the thing at a place -/
def th (xs : List Int) (p : Nat) : Nat := (xs.getD p 0).toNat
/-- the place of a thing -/
def pl (xs : List Int) (t : Nat) : Nat := xs.idxOf (t : Int)
section
variable {n : Nat} {xs ys zs : List Int}
theorem ord_nodup (h : IsOrd n xs) : xs.Nodup := by
  have : (iota n).Nodup := by
    unfold VP.iota List.Nodup
    rw [List.pairwise_map]
    exact List.nodup_range.imp fun {a b} hab e => hab (by omega)
  exact (List.Perm.nodup_iff h).mpr this
/-- the difference of two numbers -/
def df (a b : Nat) : Nat := (a - b) + (b - a)
def swapD (n : Nat) (xs ys : List Int) : Nat := inv n (pl xs) (pl ys)
def spotD (n : Nat) (xs ys : List Int) : Nat := sm n fun p => bn (th xs p != th ys p)
def shiftD (n : Nat) (xs ys : List Int) : Nat := mx n fun t => df (pl xs t) (pl ys t)
end
end D
set_option maxRecDepth 100000
namespace D
open VP (iota IsOrd)
variable {n : Nat} {xs ys zs : List Int}
theorem sm_succ {f : Nat → Nat} : sm (n + 1) f = sm n f + f n := rfl
theorem sm_delta (c : Nat) : ∀ {n t : Nat}, t < n → sm n (fun a => bn (decide (a = t)) * c) = c
  | 0, t, h => by omega
  | n + 1, t, h => by
    rw [sm_succ]
    by_cases e : n = t
    · subst e
      rw [decide_eq_true rfl, sm_congr (g := fun _ => 0) (fun i hi => by rw [decide_eq_false (by omega : ¬ i = n)]; show 0 * c = 0; omega), sm_zero]
      show 0 + 1 * c = c
      omega
    · rw [decide_eq_false e, sm_delta c (by omega)]
      show c + 0 * c = c
      omega
end D
set_option maxRecDepth 100000
namespace D
open VP (iota IsOrd)
variable {n : Nat} {xs ys zs : List Int}
/-- the list of n numbers told by f -/
def lst (n : Nat) (f : Nat → Nat) : List Int := (List.range n).map fun i => ((f i : Nat) : Int)
/-- the back of an order -/
def bk (n : Nat) (xs : List Int) : List Int := lst n (pl xs)
inductive Way where
  | swap | spot | shift
def far (w : Way) (n : Nat) (xs ys : List Int) : Nat := match w with
  | .swap => swapD n xs ys
  | .spot => spotD n xs ys
  | .shift => shiftD n xs ys
variable {w : Way}
def most (w : Way) (n : Nat) : Nat := match w with
  | .swap => n * (n - 1) / 2
  | .spot => n
  | .shift => n - 1
end D
set_option maxRecDepth 100000
namespace TM
open PySem VL VP D PySem.SeqAt
open L2 (atI ixN)
variable {n : Nat} {xs ys zs : List Int}
theorem is_whole_ok (x : Int) : m_is_whole x = .ok true := rfl
theorem enumT_len {τ : Type} (xs : List τ) : ∀ i, (enumT i xs).length = xs.length := by
  induction xs with
  | nil => intro i; rfl
  | cons x xs ih => intro i; show (enumT (i + 1) xs).length + 1 = _; rw [ih]; rfl
theorem enumT_get {τ : Type} : ∀ (xs : List τ) (i k : Nat) (h : k < (enumT i xs).length), (enumT i xs)[k] = (((i + k : Nat) : Int), xs[k]'(by rw [← enumT_len xs i]; exact h))
  | [], i, k, h => by simp [enumT] at h
  | x :: xs, i, 0, h => rfl
  | x :: xs, i, k + 1, h => by
    show (enumT (i + 1) xs)[k]'_ = _
    rw [enumT_get xs (i + 1) k]
    show ((((i + 1 + k : Nat)) : Int), xs[k]'_) = (((i + (k + 1) : Nat) : Int), xs[k]'_)
    rw [show i + 1 + k = i + (k + 1) by omega]
def wS : Way → Str
  | .swap => "swap"
  | .spot => "spot"
  | .shift => "shift"
theorem shaped_way (w : Way) : shaped (W.Datum.toD (wS w)) = true := by cases w <;> decide +kernel
instance : DecidableEq Way := fun a b => by cases a <;> cases b <;> first | exact isTrue rfl | exact isFalse (fun h => by cases h)
theorem eqG_way (w v : Way) : eqG (wS w) (wS v) = some (decide (w = v)) := by
  unfold eqG
  rw [if_pos (by rw [shaped_way, shaped_way]; rfl)]
  cases w <;> cases v <;> decide +kernel
theorem need_way_ok (w : Way) : m_need_way (wS w) = .ok () := by
  unfold m_need_way
  rw [if_neg (by cases w <;> decide +kernel)]
theorem mem_iotaN {n : Nat} {x : Int} (h : x ∈ iota n) : ∃ p : Nat, p < n ∧ x = (p : Int) := by
  obtain ⟨h1, h2⟩ := mem_iota.mp h
  exact ⟨x.toNat, by omega, by omega⟩
theorem absI_df (a b : Nat) : absI ((a : Int) - (b : Int)) = ((df a b : Nat) : Int) := by
  unfold absI df
  split <;> omega
end TM
set_option maxRecDepth 100000
namespace D
open VP (iota IsOrd)
variable {n : Nat} {xs ys zs : List Int}
/-- the place in ys of the thing at p in xs -/
def gp (xs ys : List Int) (p : Nat) : Nat := pl ys (th xs p)
end D
set_option maxRecDepth 100000
namespace TM
open PySem VL VP D PySem.SeqAt
open L2 (atI ixN)
variable {n : Nat} {xs ys zs : List Int} {τ : Type}
theorem sum_range (f : Nat → Nat) : ∀ n, ((List.range n).map fun i => ((f i : Nat) : Int)).sum = ((sm n f : Nat) : Int)
  | 0 => rfl
  | n + 1 => by
    rw [List.range_succ, List.map_append, List.sum_append, sum_range f n, sm_succ]
    simp
theorem sum_iota (f : Nat → Nat) (n : Nat) : ((iota n).map fun x => ((f x.toNat : Nat) : Int)).sum = ((sm n f : Nat) : Int) := by
  unfold iota
  rw [List.map_map]
  exact sum_range f n
theorem ways_mem {x : Str} (hx : x ∈ ([("swap" : Str), ("spot" : Str), ("shift" : Str)])) : ∃ w, x = wS w := by
  rcases List.mem_cons.mp hx with rfl | hx
  · exact ⟨.swap, rfl⟩
  · rcases List.mem_cons.mp hx with rfl | hx
    · exact ⟨.spot, rfl⟩
    · rcases List.mem_cons.mp hx with rfl | hx
      · exact ⟨.shift, rfl⟩
      · cases hx
end TM
set_option maxRecDepth 100000
namespace TM
open PySem VL VP D PySem.SeqAt
open L2 (atI ixN)
variable {n : Nat} {xs ys zs : List Int} {τ κ υ : Type}
theorem cut_drop (l : List τ) {i : Int} (h : 0 ≤ i) : cutD l (some i) none = l.drop i.toNat := by
  obtain ⟨k, rfl⟩ : ∃ k : Nat, i = (k : Int) := ⟨i.toNat, by omega⟩
  unfold cutD
  have h1 : HT.sIx l.length 0 (some (k : Int)) = min k l.length := HT.sIx_nat l.length 0 k
  have h2 : HT.sIx l.length l.length none = l.length := HT.sIx_none _ _
  rw [h1, h2, Int.toNat_natCast]
  by_cases hk : k ≤ l.length
  · rw [Nat.min_eq_left hk, List.take_of_length_le (by rw [List.length_drop]; omega)]
  · rw [Nat.min_eq_right (by omega), List.drop_eq_nil_of_le (Nat.le_refl _), List.drop_eq_nil_of_le (by omega), List.take_nil]
theorem cut_take (l : List τ) {i : Int} (h : 0 ≤ i) : cutD l none (some i) = l.take i.toNat := by
  obtain ⟨k, rfl⟩ : ∃ k : Nat, i = (k : Int) := ⟨i.toNat, by omega⟩
  unfold cutD
  have h1 : HT.sIx l.length l.length (some (k : Int)) = min k l.length := HT.sIx_nat l.length l.length k
  have h2 : HT.sIx l.length 0 none = 0 := HT.sIx_none _ _
  rw [h1, h2, Int.toNat_natCast, Nat.sub_zero, List.drop_zero]
  by_cases hk : k ≤ l.length
  · rw [Nat.min_eq_left hk]
  · rw [Nat.min_eq_right (by omega), List.take_of_length_le (Nat.le_refl _), List.take_of_length_le (by omega)]
section
variable [DecidableEq κ]
theorem look_put (l : List (κ × υ)) (k k' : κ) (v : υ) : lookT (putT l k v) k' = if k' = k then some v else lookT l k' := by
  unfold putT
  by_cases h : (l.any fun p => decide (p.1 = k)) = true
  · rw [if_pos h]
    induction l with
    | nil => simp at h
    | cons p l ih =>
      unfold lookT at *
      rw [List.map_cons]
      by_cases e : p.1 = k
      · rw [if_pos e]
        by_cases q : k' = k
        · rw [if_pos q, List.find?_cons_of_pos (by rw [decide_eq_true_eq]; exact e.trans q.symm)]
          rfl
        · rw [if_neg q, List.find?_cons_of_neg (by rw [decide_eq_true_eq]; exact fun z => q (z.symm.trans e)), List.find?_cons_of_neg (by rw [decide_eq_true_eq]; exact fun z => q (z.symm.trans e))]
          by_cases h2 : (l.any fun p => decide (p.1 = k)) = true
          · have := ih h2
            rw [if_neg q] at this
            exact this
          · have : (l.map fun p => if p.1 = k then (p.1, v) else p) = l := by
              refine (List.map_congr_left fun p hp => ?_).trans (List.map_id l)
              rw [if_neg]
              · rfl
              · intro z
                exact h2 (List.any_eq_true.mpr ⟨p, hp, decide_eq_true z⟩)
            rw [this]
      · rw [if_neg e]
        have h2 : (l.any fun p => decide (p.1 = k)) = true := by
          rw [List.any_cons, decide_eq_false e, Bool.false_or] at h
          exact h
        by_cases q : p.1 = k'
        · rw [List.find?_cons_of_pos (by rw [decide_eq_true_eq]; exact q), if_neg (fun z => e (q.trans z)), List.find?_cons_of_pos (by rw [decide_eq_true_eq]; exact q)]
        · rw [List.find?_cons_of_neg (by rw [decide_eq_true_eq]; exact q), List.find?_cons_of_neg (by rw [decide_eq_true_eq]; exact q)]
          exact ih h2
  · rw [if_neg h]
    unfold lookT
    rw [List.find?_append]
    by_cases q : k' = k
    · subst q
      rw [if_pos rfl, List.find?_eq_none.mpr (fun p hp z => h (List.any_eq_true.mpr ⟨p, hp, z⟩)), Option.none_or, List.find?_cons_of_pos (by rw [decide_eq_true_eq])]
      rfl
    · rw [if_neg q, List.find?_cons_of_neg (by rw [decide_eq_true_eq]; exact fun z => q z.symm), List.find?_nil, Option.or_none]
end
end TM
set_option maxRecDepth 100000
namespace D
open VP (iota IsOrd)
variable {n : Nat} {xs ys zs : List Int}
def sw (p i : Nat) : Nat := if i = p then p + 1 else if i = p + 1 then p else i
/-- the first place from p on, of at most k, that stands behind its next -/
def fdn (g : Nat → Nat) : Nat → Nat → Nat
  | 0, p => p
  | k + 1, p => if g p < g (p + 1) then fdn g k (p + 1) else p
/-- the walk: k times the first place that stands behind its next -/
def W (n : Nat) : Nat → (Nat → Nat) → List Int
  | 0, _ => []
  | k + 1, g => ((fdn g (n - 1) 0 : Nat) : Int) :: W n k fun i => g (sw (fdn g (n - 1) 0) i)
/-- how many pairs stand wrong -/
def iv (n : Nat) (g : Nat → Nat) : Nat := inv n (fun i => i) g
end D
set_option maxRecDepth 100000
set_option maxHeartbeats 0
namespace K15
open PySem PySem.Spec PyProof.Rows L2 VL VP
def top (i : Nat) : Stmt := PySem.Challenge.pw_farorders_k15_how_many_within.main.body.getD i (.Pass ⟨0, 0, 0, 0⟩)
abbrev s__law_draws : Stmt := top 19
abbrev s__law_whole : Stmt := top 27
abbrev s__law_fill : Stmt := top 24
abbrev s__law_shifts : Stmt := top 25
abbrev s__law_chosen : Stmt := top 22
abbrev s__law_spots : Stmt := top 23
abbrev s__law_swaps : Stmt := top 21
abbrev s__law_within : Stmt := top 26
abbrev s_is_whole : Stmt := top 7
abbrev s_need_reach : Stmt := top 11
abbrev s_need_things : Stmt := top 10
abbrev s_need_way : Stmt := top 8
abbrev s_by_spot : Stmt := top 13
abbrev s_by_swap : Stmt := top 12
abbrev s_shifted_within : Stmt := top 14
abbrev s_within_by : Stmt := top 15
abbrev s_count_at : Stmt := top 17
abbrev s_count_within : Stmt := top 16
abbrev s__law_right : Stmt := top 28
abbrev s__law_take : Stmt := top 20
abbrev s_law : Stmt := top 29
/-- what the module holds -/
structure Fc (K : PySem.W.Frag) (mg : Str → Option Value) : Prop where
  x_NoNumber : XC K mg "NoNumber"
  x_NoWay : XC K mg "NoWay"
  f_abs : mg "abs" = none
  f_bool : mg "bool" = none
  f_enumerate : mg "enumerate" = none
  f_int : mg "int" = none
  f_isinstance : mg "isinstance" = none
  f_len : mg "len" = none
  f_list : mg "list" = none
  f_max : mg "max" = none
  f_min : mg "min" = none
  f_range : mg "range" = none
  f_str : mg "str" = none
  f_sum : mg "sum" = none
  f_tuple : mg "tuple" = none
  i_MOST_THINGS : ∃ t, mg "MOST_THINGS" = some (.int 12 t)
  t_WAYS : TupG K mg "WAYS" ["swap", "spot", "shift"]
/-- 0: script, 1: many, 2: drawn, 3: base, 4: k, 5: cell, 6: number, 7: one -/
def b__law_draws : FS :=
  (sSeq (sOwn 2 (fLst dNil))
  (sSeq (sAsg 3 (fC (.int 7)))
  (sSeq (sFor (iEnumr (fScSl (fVar 0) oNo (oSome (fC (.int 63))))) (gT2 4 5) (sSeq (sAsg 6 (fCB gAbs (aCons (fVar 5) aNil)))
  (sSeq (sAsg 3 (fBin oMod (fBin oAdd (fBin oMul (fVar 3) (fC (.int 31))) (fVar 6)) (fC (.int 2147483629))))
  (sIf (fTest (fBin oGe (fVar 6) (fBin oPow (fC (.int 10)) (fC (.int 18))))) (sWhile (tAnd (fTest (fBin oGt (fVar 6) (fC (.int 0)))) (fTest (fBin oLt (fCB gLen (aCons (fVar 2) aNil)) (fVar 1)))) (sSeq (sExpr (fMth 2 mAppend (dCons (fBin oMod (fVar 6) (fC (.int 10007))) dNil)))
  (sAsg 6 (fBin (opI cFdiv fun i j => i / j) (fVar 6) (fC (.int 10007))))) [] 1000000) (sSeq (sAsg 7 (fBin oMod (fBin oMul (fBin oAdd (fBin oAdd (fBin oMod (fVar 6) (fC (.int 2147483647))) (fVar 4)) (fC (.int 1))) (fC (.int 48271))) (fC (.int 2147483647))))
  (sSeq (sAsg 7 (fBin oMod (fBin oMul (fVar 7) (fVar 7)) (fC (.int 2147483629))))
  (sSeq (sExpr (fMth 2 mAppend (dCons (fBin oMod (fBin (opI cFdiv fun i j => i / j) (fVar 7) (fC (.int 8))) (fC (.int 10007))) dNil)))
  (sSeq (sAsg 7 (fBin oMod (fBin oAdd (fBin oAdd (fBin oMul (fVar 7) (fC (.int 40692))) (fBin oMul (fC (.int 2)) (fVar 4))) (fC (.int 1))) (fC (.int 2147483563))))
  (sSeq (sAsg 7 (fBin oMod (fBin oMul (fVar 7) (fVar 7)) (fC (.int 2147483647))))
  (sExpr (fMth 2 mAppend (dCons (fBin oMod (fBin (opI cFdiv fun i j => i / j) (fVar 7) (fC (.int 8))) (fC (.int 10007))) dNil))))))))))) [4, 5, 6, 7])
  (sSeq (sFor (iRange1 (fBin oSub (fVar 1) (fCB gLen (aCons (fVar 2) aNil)))) (gN 4) (sSeq (sAsg 7 (fBin oMod (fBin oAdd (fBin oAdd (fVar 3) (fBin oMul (fC (.int 7919)) (fVar 4))) (fC (.int 13))) (fC (.int 2147483629))))
  (sSeq (sAsg 7 (fBin oMod (fBin oMul (fVar 7) (fVar 7)) (fC (.int 2147483647))))
  (sSeq (sAsg 7 (fBin oMod (fBin oAdd (fBin oMul (fVar 7) (fC (.int 69621))) (fVar 4)) (fC (.int 2147483563))))
  (sExpr (fMth 2 mAppend (dCons (fBin oMod (fBin (opI cFdiv fun i j => i / j) (fBin oMod (fBin oMul (fVar 7) (fVar 7)) (fC (.int 2147483629))) (fC (.int 8))) (fC (.int 10007))) dNil)))))) [4, 7])
  (sRetO (fVar 2))))))
def h__law_draws : Fn := runF b__law_draws 8
/-- 0: found, 1: due -/
def b__law_whole : FS :=
  (sRetO (fAndV (fIsi .int (fVar 0)) (fAndV (fNotV (fIsi .bool (fVar 0))) (fBin oEq (fVar 0) (fVar 1)))))
def h__law_whole : Fn := runF b__law_whole 2
/-- 0: n, 1: r, 2: place, 3: left, 4: known, 5: total, 6: k, 7: thing, 8: rest -/
def r__law_fill : Nat → Fn
  | 0 => fun _ => none
  | j + 1 => runF
      (sSeq (sIf (fTest (fBin oEq (fVar 2) (fVar 0))) (sRetO (fC (.int 1))) sNil)
      (sSeq (sIf (fTest (fTIn true 4 (fVar 3))) (sSeq (sAsg 5 (fC (.int 0)))
      (sSeq (sFor (iEnumT (fVar 3)) (gT2 6 7) (sIf (fTest (fBin oLe (fCB gAbs (aCons (fBin oSub (fVar 7) (fVar 2)) aNil)) (fVar 1))) (sSeq (sAsg 8 (fBin oAdd (fSlT (fVar 3) oNo (oSome (fVar 6))) (fSlT (fVar 3) (oSome (fBin oAdd (fVar 6) (fC (.int 1)))) oNo)))
      (sAsg 5 (fBin oAdd (fVar 5) (fCall (r__law_fill j) 5 [(4, 4)] (aF (fVar 0) (aF (fVar 1) (aF (fBin oAdd (fVar 2) (fC (.int 1))) (aF (fVar 8) (aM 4 aNil))))))))) sNil) [6, 7, 8])
      (sTPut 4 (fVar 3) (fVar 5)))) sNil)
      (sRetO (fTGet 4 (fVar 3))))) 9
abbrev h__law_fill : Fn := r__law_fill 30
/-- 0: n, 1: r -/
def b__law_shifts : FS :=
  (sRetO (fCallT h__law_fill 5 [] 4 (aF (fVar 0) (aF (fCB gMin (aCons (fVar 1) (aCons (fVar 0) aNil))) (aF (fC (.int 0)) (aF (fCB gTuple (aCons (fListRg1 (fVar 0)) aNil)) (aT fTNew aNil)))))))
def h__law_shifts : Fn := runF b__law_shifts 2
/-- 0: n, 1: k, 2: found, 3: step -/
def b__law_chosen : FS :=
  (sSeq (sOwn 2 (fC (.int 1)))
  (sSeq (sFor (iRange1 (fVar 1)) (gN 3) (sOwn 2 (fBin (opI cFdiv fun i j => i / j) (fBin oMul (fVar 2) (fBin oSub (fVar 0) (fVar 3))) (fBin oAdd (fVar 3) (fC (.int 1))))) [3])
  (sRetO (fVar 2))))
def h__law_chosen : Fn := runF b__law_chosen 4
/-- 0: n, 1: found, 2: k, 3: total, 4: kept, 5: ways, 6: one -/
def b__law_spots : FS :=
  (sSeq (sOwn 1 (fLst dNil))
  (sSeq (sFor (iRange1 (fBin oAdd (fVar 0) (fC (.int 1)))) (gN 2) (sSeq (sAsg 3 (fC (.int 0)))
  (sSeq (sFor (iRange1 (fBin oAdd (fVar 2) (fC (.int 1)))) (gN 4) (sSeq (sAsg 5 (fC (.int 1)))
  (sSeq (sFor (iRange1 (fBin oSub (fVar 2) (fVar 4))) (gN 6) (sAsg 5 (fBin oMul (fVar 5) (fBin oAdd (fVar 6) (fC (.int 1))))) [6])
  (sAsg 3 (fBin oAdd (fVar 3) (fBin oMul (fBin oMul (fBin oIx (fLst (dCons (fC (.int 1)) (dCons (fUn oNeg (fC (.int 1))) dNil))) (fBin oMod (fVar 4) (fC (.int 2)))) (fCallP h__law_chosen 2 (aP (fVar 2) (aP (fVar 4) aNil)))) (fVar 5)))))) [4, 5, 6])
  (sExpr (fMth 1 mAppend (dCons (fBin oMul (fCallP h__law_chosen 2 (aP (fVar 0) (aP (fVar 2) aNil))) (fVar 3)) dNil))))) [2, 3, 4, 5, 6])
  (sRetO (fVar 1))))
def h__law_spots : Fn := runF b__law_spots 7
/-- 0: n, 1: less, 2: found, 3: far, 4: some, 5: k -/
def r__law_swaps : Nat → Fn
  | 0 => fun _ => none
  | j + 1 => runF
      (sSeq (sIf (fTest (fBin oEq (fVar 0) (fC (.int 1)))) (sRetO (fLst (dCons (fC (.int 1)) dNil))) sNil)
      (sSeq (sAsg 1 (fCall (r__law_swaps j) 1 [] (aF (fBin oSub (fVar 0) (fC (.int 1))) aNil)))
      (sSeq (sOwn 2 (fLst dNil))
      (sSeq (sFor (iRange1 (fBin oAdd (fBin (opI cFdiv fun i j => i / j) (fBin oMul (fVar 0) (fBin oSub (fVar 0) (fC (.int 1)))) (fC (.int 2))) (fC (.int 1)))) (gN 3) (sSeq (sAsg 4 (fLc (iRange1 (fVar 0)) (gN 5) tTrue (fBin oSub (fVar 3) (fVar 5)) [5]))
      (sExpr (fMth 2 mAppend (dCons (fCB gSum (aCons (fLc (iSeq (fVar 4)) (gN 5) (fTest (fChain oLe oLt (fC (.int 0)) (fVar 5) (fCB gLen (aCons (fVar 1) aNil)))) (fBin oIx (fVar 1) (fVar 5)) [5]) aNil)) dNil)))) [3, 4])
      (sRetO (fVar 2)))))) 6
abbrev h__law_swaps : Fn := r__law_swaps 30
/-- 0: way, 1: n, 2: r, 3: counts, 4: far, 5: many -/
def b__law_within : FS :=
  (sSeq (sIf (fTest (fBin oEq (fVar 0) (fC (.str "shift")))) (sRetO (fCall h__law_shifts 2 [] (aF (fVar 1) (aF (fVar 2) aNil)))) sNil)
  (sSeq (sAsg 3 (fPick (fCB gInt (aCons (fBin oEq (fVar 0) (fC (.str "spot"))) aNil)) h__law_swaps h__law_spots 1 (aF (fVar 1) aNil)))
  (sRetO (fCB gSum (aCons (fLc (iEnumr (fVar 3)) (gT2 4 5) (fTest (fBin oLe (fVar 4) (fVar 2))) (fVar 5) [4, 5]) aNil)))))
def h__law_within : Fn := runF b__law_within 6
/-- 0: way, 1: n, 2: r, 3: due, 4: less, 5: again -/
def b__law_right : FS :=
  (sSeq (sAsg 3 (fCall h__law_within 3 [] (aF (fVar 0) (aF (fVar 1) (aF (fVar 2) aNil)))))
  (sSeq (sAsg 4 (fC (.int 0)))
  (sSeq (sIf (fTest (fBin oGt (fVar 2) (fC (.int 0)))) (sAsg 4 (fCall h__law_within 3 [] (aF (fVar 0) (aF (fVar 1) (aF (fBin oSub (fVar 2) (fC (.int 1))) aNil))))) sNil)
  (sSeq (sFor (iRange1 (fC (.int 2))) (gN 5) (sSeq (sIf (tNot (fTest (fCallP h__law_whole 2 (aP (fCallP h_count_within 3 (aP (fVar 0) (aP (fVar 1) (aP (fVar 2) aNil)))) (aP (fVar 3) aNil))))) (sRetO (fC (.bool false))) sNil)
  (sIf (tNot (fTest (fCallP h__law_whole 2 (aP (fCallP h_count_at 3 (aP (fVar 0) (aP (fVar 1) (aP (fVar 2) aNil)))) (aP (fBin oSub (fVar 3) (fVar 4)) aNil))))) (sRetO (fC (.bool false))) sNil)) [5])
  (sRetO (fC (.bool true)))))))
def h__law_right : Fn := runF b__law_right 6
/-- 0: store, 1: many -/
def b__law_take : FS :=
  (sSeq (sPut 0 (fC (.int 1)) (fBin oAdd (fBin oIx (fVar 0) (fC (.int 1))) (fC (.int 1))))
  (sRetO (fBin oMod (fBin oIx (fBin oIx (fVar 0) (fC (.int 0))) (fBin oMod (fBin oSub (fBin oIx (fVar 0) (fC (.int 1))) (fC (.int 1))) (fCB gLen (aCons (fBin oIx (fVar 0) (fC (.int 0))) aNil)))) (fVar 1))))
def h__law_take : Fn := runF b__law_take 2
/-- 0: script, 1: store, 2: turn, 3: n, 4: way, 5: most, 6: some, 7: r, 8: size -/
def b_law : FS :=
  (sSeq (sOwn 1 (fLst (dCons (fCall h__law_draws 2 [] (aF (fVar 0) (aF (fC (.int 100)) aNil))) (dCons (fC (.int 0)) dNil))))
  (sSeq (sFor (iRange1 (fC (.int 4))) (gN 2) (sSeq (sAsg 3 (fBin oIx (fLst (dCons (fBin oAdd (fC (.int 1)) (fCall h__law_take 2 [(0, 1)] (aM 1 (aF (fC (.int 12)) aNil)))) (dCons (fC (.int 12)) (dCons (fBin oAdd (fC (.int 1)) (fCall h__law_take 2 [(0, 1)] (aM 1 (aF (fC (.int 6)) aNil)))) dNil)))) (fCall h__law_take 2 [(0, 1)] (aM 1 (aF (fC (.int 3)) aNil)))))
  (sFor (iSeq (fLst (dCons (fC (.str "swap")) (dCons (fC (.str "spot")) (dCons (fC (.str "shift")) dNil))))) (gN 4) (sSeq (sAsg 5 (fBin oDix (fDisp [((fC (.str "swap")), (fBin (opI cFdiv fun i j => i / j) (fBin oMul (fVar 3) (fBin oSub (fVar 3) (fC (.int 1)))) (fC (.int 2)))), ((fC (.str "spot")), (fVar 3)), ((fC (.str "shift")), (fBin oSub (fVar 3) (fC (.int 1))))]) (fVar 4)))
  (sSeq (sAsg 6 (fLst (dCons (fCall h__law_take 2 [(0, 1)] (aM 1 (aF (fC (.int 4)) aNil))) (dCons (fCall h__law_take 2 [(0, 1)] (aM 1 (aF (fBin oAdd (fVar 5) (fC (.int 1))) aNil))) (dCons (fVar 5) (dCons (fBin oAdd (fVar 5) (fC (.int 1))) dNil))))))
  (sSeq (sAsg 6 (fBin oAdd (fVar 6) (fLst (dCons (fCB gMax (aCons (fC (.int 0)) (aCons (fBin oSub (fVar 5) (fC (.int 1))) aNil))) (dCons (fBin oIx (fLst (dCons (fBin oPow (fC (.int 10)) (fC (.int 25))) (dCons (fBin oAdd (fVar 5) (fCall h__law_take 2 [(0, 1)] (aM 1 (aF (fC (.int 99)) aNil)))) dNil))) (fBin oMod (fVar 2) (fC (.int 2)))) dNil)))))
  (sSeq (sAsg 7 (fBin oIx (fVar 6) (fCall h__law_take 2 [(0, 1)] (aM 1 (aF (fC (.int 6)) aNil)))))
  (sSeq (sAsg 8 (fBin oIx (fLst (dCons (fVar 3) (dCons (fCB gMin (aCons (fVar 3) (aCons (fC (.int 8)) aNil))) dNil))) (fCB gInt (aCons (fAndV (fBin oEq (fVar 4) (fC (.str "shift"))) (fBin oGt (fVar 2) (fC (.int 0)))) aNil))))
  (sIf (tNot (fTest (fCallP h__law_right 3 (aP (fVar 4) (aP (fVar 8) (aP (fVar 7) aNil)))))) (sRetO (fC (.bool false))) sNil)))))) [4, 5, 6, 7, 8])) [2, 3, 4, 5, 6, 7, 8])
  (sRetO (fC (.bool true)))))
def h_law : Fn := runF b_law 9
end K15
set_option maxRecDepth 100000
set_option maxHeartbeats 0
namespace K15
open PySem PySem.Spec PyProof.Rows L2 VL VP
section
variable {P : Program} {w : World} {K : PySem.W.Frag} {mg : Str → Option Value} {base : Heap}
theorem ok__law_draws {a : Addr} {fd : FuncData} (F : FunD K "_law_draws" "_law_draws" (defArgs s__law_draws) (defBody s__law_draws) (defScope s__law_draws) [] [] a fd) (gm : mg "_law_draws" = some (.ref a)) (z : Fc K mg)  : CalK P w K mg base rhoT "_law_draws" 2 [] h__law_draws 2 :=
  cal_mk (N := ["script", "many", "drawn", "base", "k", "cell", "number", "one"]) (ps := ["script", "many"]) (k := 1) (g := b__law_draws) [] F gm ⟨rfl, rfl, rfl, by decide +kernel, rfl, by decide +kernel, by decide +kernel⟩ (by decide) (fun _ _ _ _ _ _ us hl => match us, hl with | [_, _], _ => rfl) (fun cdv A outer s H E hr V0 => by
    exact
  (vss_cons (vs_own V0.nd 2 (ve_lst vd_nil))
  (vss_cons (vs_asg V0.nd 3 ve_int)
  (vss_cons (vs_for V0 [4, 5, 6, 7] (vi_enum z.f_enumerate (ve_scSl (ve_var 0) vo_no (vo_some ve_int))) (vg_t2 V0.nd V0.calm 4 5) (vss_cons (vs_asg V0.nd 6 (ve_cb (v_abs) z.f_abs b_abs (va_cons (ve_var 5) va_nil)))
  (vss_cons (vs_asg V0.nd 3 (ve_op v_mod (ve_op v_add (ve_op v_mul (ve_var 3) ve_int) (ve_var 6)) ve_int))
  (vss_one (vs_if (vt_cmp v_ge (ve_var 6) (ve_op v_pow ve_int ve_int)) (vss_one (vs_while V0 [] 1000000 (VW.vt (vw_and (vt_cmp v_gt (ve_var 6) ve_int) (vw_and1 (vt_cmp v_lt (ve_cb (v_len) z.f_len b_len (va_cons (ve_var 2) va_nil)) (ve_var 1))))) (vss_cons (vs_expr (ve_mth v_append 2 PySem.F.slot_list_append PySem.F.type_list_append (vd_cons (ve_op v_mod (ve_var 6) ve_int) vd_nil)))
  (vss_one (vs_asg V0.nd 6 (ve_op v_fdiv (ve_var 6) ve_int)))))) (vss_cons (vs_asg V0.nd 7 (ve_op v_mod (ve_op v_mul (ve_op v_add (ve_op v_add (ve_op v_mod (ve_var 6) ve_int) (ve_var 4)) ve_int) ve_int) ve_int))
  (vss_cons (vs_asg V0.nd 7 (ve_op v_mod (ve_op v_mul (ve_var 7) (ve_var 7)) ve_int))
  (vss_cons (vs_expr (ve_mth v_append 2 PySem.F.slot_list_append PySem.F.type_list_append (vd_cons (ve_op v_mod (ve_op v_fdiv (ve_var 7) ve_int) ve_int) vd_nil)))
  (vss_cons (vs_asg V0.nd 7 (ve_op v_mod (ve_op v_add (ve_op v_add (ve_op v_mul (ve_var 7) ve_int) (ve_op v_mul ve_int (ve_var 4))) ve_int) ve_int))
  (vss_cons (vs_asg V0.nd 7 (ve_op v_mod (ve_op v_mul (ve_var 7) (ve_var 7)) ve_int))
  (vss_one (vs_expr (ve_mth v_append 2 PySem.F.slot_list_append PySem.F.type_list_append (vd_cons (ve_op v_mod (ve_op v_fdiv (ve_var 7) ve_int) ve_int) vd_nil))))))))))))))
  (vss_cons (vs_for V0 [4, 7] (vi_range1 z.f_range (ve_op v_sub (ve_var 1) (ve_cb (v_len) z.f_len b_len (va_cons (ve_var 2) va_nil)))) (vg_name V0.nd 4) (vss_cons (vs_asg V0.nd 7 (ve_op v_mod (ve_op v_add (ve_op v_add (ve_var 3) (ve_op v_mul ve_int (ve_var 4))) ve_int) ve_int))
  (vss_cons (vs_asg V0.nd 7 (ve_op v_mod (ve_op v_mul (ve_var 7) (ve_var 7)) ve_int))
  (vss_cons (vs_asg V0.nd 7 (ve_op v_mod (ve_op v_add (ve_op v_mul (ve_var 7) ve_int) (ve_var 4)) ve_int))
  (vss_one (vs_expr (ve_mth v_append 2 PySem.F.slot_list_append PySem.F.type_list_append (vd_cons (ve_op v_mod (ve_op v_fdiv (ve_op v_mod (ve_op v_mul (ve_var 7) (ve_var 7)) ve_int) ve_int) ve_int) vd_nil))))))))
  (vss_one (vs_retO (ve_var 2)))))))) (by decide)
theorem ok__law_whole {a : Addr} {fd : FuncData} (F : FunD K "_law_whole" "_law_whole" (defArgs s__law_whole) (defBody s__law_whole) (defScope s__law_whole) [] [] a fd) (gm : mg "_law_whole" = some (.ref a)) (z : Fc K mg)  : CalK P w K mg base rhoT "_law_whole" 2 [] h__law_whole 2 :=
  cal_mk (N := ["found", "due"]) (ps := ["found", "due"]) (k := 1) (g := b__law_whole) [] F gm ⟨rfl, rfl, rfl, by decide +kernel, rfl, by decide +kernel, by decide +kernel⟩ (by decide) (fun _ _ _ _ _ _ us hl => match us, hl with | [_, _], _ => rfl) (fun cdv A outer s H E hr V0 => by
    exact
  (vss_one (vs_retO (ve_and (ve_isi .int (ve_var 0) z.f_isinstance z.f_int b_int) (ve_and (ve_not (ve_isi .bool (ve_var 0) z.f_isinstance z.f_bool b_bool)) (ve_one (ve_cmp (v_eq (by have := V0.room.un; omega)) (ve_var 0) (ve_var 1)))))))) (by decide)
theorem okr__law_fill {a : Addr} {fd : FuncData} (F : FunD K "_law_fill" "_law_fill" (defArgs s__law_fill) (defBody s__law_fill) (defScope s__law_fill) [] [] a fd) (gm : mg "_law_fill" = some (.ref a)) (z : Fc K mg)  : ∀ j : Nat, CalK P w K mg base rhoT "_law_fill" 5 [4] (r__law_fill j) (2 + j)
  | 0 => cal_none (ps := ["n", "r", "place", "left", "known"]) [4] F gm (fun _ _ _ _ _ _ us hl => match us, hl with | [_, _, _, _, _], _ => rfl)
  | j + 1 => by
    have ih := okr__law_fill F gm z  j
    exact cal_mk (N := ["n", "r", "place", "left", "known", "total", "k", "thing", "rest"]) (ps := ["n", "r", "place", "left", "known"]) (k := 2 + j) [4] F gm ⟨rfl, rfl, rfl, by decide +kernel, rfl, by decide +kernel, by decide +kernel⟩ (by decide) (fun _ _ _ _ _ _ us hl => match us, hl with | [_, _, _, _, _], _ => rfl) (fun cdv A outer s H E hr V0 => by
      exact
  (vss_cons (vs_if (vt_cmp (v_eq (by have := V0.room.un; omega)) (ve_var 2) (ve_var 0)) (vss_one (vs_retO ve_int)) vss_nil)
  (vss_cons (vs_if (vt_tnotIn rfl 4 (by have := V0.room.un; omega) (ve_var 3)) (vss_cons (vs_asg V0.nd 5 ve_int)
  (vss_cons (vs_for V0 [6, 7, 8] (vi_enumT z.f_enumerate (ve_var 3)) (vg_t2 V0.nd V0.calm 6 7) (vss_one (vs_if (vt_cmp v_le (ve_cb (v_abs) z.f_abs b_abs (va_cons (ve_op v_sub (ve_var 7) (ve_var 2)) va_nil)) (ve_var 1)) (vss_cons (vs_asg V0.nd 8 (ve_op v_add (ve_slT (ve_var 3) vo_no (vo_some (ve_var 6))) (ve_slT (ve_var 3) (vo_some (ve_op v_add (ve_var 6) ve_int)) vo_no)))
  (vss_one (vs_asg V0.nd 5 (ve_op v_add (ve_var 5) (ve_call (mi := [(4, 4)]) V0 ih.c (hr.mono (by omega)) (va_F (ve_var 0) (va_F (ve_var 1) (va_F (ve_op v_add (ve_var 2) ve_int) (va_F (ve_var 8) (va_M 4 va_nil)))))))))) vss_nil)))
  (vss_one (vs_tput rfl (by have := V0.room.un; omega) 4 (ve_var 3) (ve_var 5))))) vss_nil)
  (vss_one (vs_retO (ve_tget rfl 4 (by have := V0.room.un; omega) (ve_var 3))))))) (by omega)
theorem ok__law_fill {a : Addr} {fd : FuncData} (F : FunD K "_law_fill" "_law_fill" (defArgs s__law_fill) (defBody s__law_fill) (defScope s__law_fill) [] [] a fd) (gm : mg "_law_fill" = some (.ref a)) (z : Fc K mg)  : CalK P w K mg base rhoT "_law_fill" 5 [4] h__law_fill 32 := okr__law_fill F gm z  30
theorem ok__law_shifts {a : Addr} {fd : FuncData} (F : FunD K "_law_shifts" "_law_shifts" (defArgs s__law_shifts) (defBody s__law_shifts) (defScope s__law_shifts) [] [] a fd) (gm : mg "_law_shifts" = some (.ref a)) (z : Fc K mg) (c__law_fill : CalK P w K mg base rhoT "_law_fill" 5 [4] h__law_fill 32) : CalK P w K mg base rhoT "_law_shifts" 2 [] h__law_shifts 33 :=
  cal_mk (N := ["n", "r"]) (ps := ["n", "r"]) (k := 32) (g := b__law_shifts) [] F gm ⟨rfl, rfl, rfl, by decide +kernel, rfl, by decide +kernel, by decide +kernel⟩ (by decide) (fun _ _ _ _ _ _ us hl => match us, hl with | [_, _], _ => rfl) (fun cdv A outer s H E hr V0 => by
    exact
  (vss_one (vs_retO (ve_callT (mi := []) 4 rfl V0 c__law_fill.c (hr.mono (by decide)) (va_F (ve_var 0) (va_F (ve_cb (v_min V0.calm) z.f_min b_min (va_cons (ve_var 1) (va_cons (ve_var 0) va_nil))) (va_F ve_int (va_F (ve_ct v_tuple z.f_tuple b_tuple (va_cons (ve_listRg1 V0.calm z.f_list z.f_range (ve_var 0)) va_nil)) (va_T (ve_tnew rfl) va_nil))))))))) (by decide)
theorem ok__law_chosen {a : Addr} {fd : FuncData} (F : FunD K "_law_chosen" "_law_chosen" (defArgs s__law_chosen) (defBody s__law_chosen) (defScope s__law_chosen) [] [] a fd) (gm : mg "_law_chosen" = some (.ref a)) (z : Fc K mg)  : CalK P w K mg base rhoT "_law_chosen" 2 [] h__law_chosen 2 :=
  cal_mk (N := ["n", "k", "found", "step"]) (ps := ["n", "k"]) (k := 1) (g := b__law_chosen) [] F gm ⟨rfl, rfl, rfl, by decide +kernel, rfl, by decide +kernel, by decide +kernel⟩ (by decide) (fun _ _ _ _ _ _ us hl => match us, hl with | [_, _], _ => rfl) (fun cdv A outer s H E hr V0 => by
    exact
  (vss_cons (vs_own V0.nd 2 ve_int)
  (vss_cons (vs_for V0 [3] (vi_range1 z.f_range (ve_var 1)) (vg_name V0.nd 3) (vss_one (vs_own V0.nd 2 (ve_op v_fdiv (ve_op v_mul (ve_var 2) (ve_op v_sub (ve_var 0) (ve_var 3))) (ve_op v_add (ve_var 3) ve_int)))))
  (vss_one (vs_retO (ve_var 2)))))) (by decide)
theorem ok__law_spots {a : Addr} {fd : FuncData} (F : FunD K "_law_spots" "_law_spots" (defArgs s__law_spots) (defBody s__law_spots) (defScope s__law_spots) [] [] a fd) (gm : mg "_law_spots" = some (.ref a)) (z : Fc K mg) (c__law_chosen : CalK P w K mg base rhoT "_law_chosen" 2 [] h__law_chosen 2) : CalK P w K mg base rhoT "_law_spots" 1 [] h__law_spots 3 :=
  cal_mk (N := ["n", "found", "k", "total", "kept", "ways", "one"]) (ps := ["n"]) (k := 2) (g := b__law_spots) [] F gm ⟨rfl, rfl, rfl, by decide +kernel, rfl, by decide +kernel, by decide +kernel⟩ (by decide) (fun _ _ _ _ _ _ us hl => match us, hl with | [_], _ => rfl) (fun cdv A outer s H E hr V0 => by
    exact
  (vss_cons (vs_own V0.nd 1 (ve_lst vd_nil))
  (vss_cons (vs_for V0 [2, 3, 4, 5, 6] (vi_range1 z.f_range (ve_op v_add (ve_var 0) ve_int)) (vg_name V0.nd 2) (vss_cons (vs_asg V0.nd 3 ve_int)
  (vss_cons (vs_for V0 [4, 5, 6] (vi_range1 z.f_range (ve_op v_add (ve_var 2) ve_int)) (vg_name V0.nd 4) (vss_cons (vs_asg V0.nd 5 ve_int)
  (vss_cons (vs_for V0 [6] (vi_range1 z.f_range (ve_op v_sub (ve_var 2) (ve_var 4))) (vg_name V0.nd 6) (vss_one (vs_asg V0.nd 5 (ve_op v_mul (ve_var 5) (ve_op v_add (ve_var 6) ve_int)))))
  (vss_one (vs_asg V0.nd 3 (ve_op v_add (ve_var 3) (ve_op v_mul (ve_op v_mul (ve_ix (ve_lst (vd_cons ve_int (vd_cons (ve_un v_neg ve_int) vd_nil))) (ve_op v_mod (ve_var 4) ve_int)) (ve_callP V0 c__law_chosen.c (hr.mono (by decide)) (va_P (ve_var 2) (va_P (ve_var 4) va_nil)))) (ve_var 5))))))))
  (vss_one (vs_expr (ve_mth v_append 1 PySem.F.slot_list_append PySem.F.type_list_append (vd_cons (ve_op v_mul (ve_callP V0 c__law_chosen.c (hr.mono (by decide)) (va_P (ve_var 0) (va_P (ve_var 2) va_nil))) (ve_var 3)) vd_nil)))))))
  (vss_one (vs_retO (ve_var 1)))))) (by decide)
theorem okr__law_swaps {a : Addr} {fd : FuncData} (F : FunD K "_law_swaps" "_law_swaps" (defArgs s__law_swaps) (defBody s__law_swaps) (defScope s__law_swaps) [] [] a fd) (gm : mg "_law_swaps" = some (.ref a)) (z : Fc K mg)  : ∀ j : Nat, CalK P w K mg base rhoT "_law_swaps" 1 [] (r__law_swaps j) (2 + j)
  | 0 => cal_none (ps := ["n"]) [] F gm (fun _ _ _ _ _ _ us hl => match us, hl with | [_], _ => rfl)
  | j + 1 => by
    have ih := okr__law_swaps F gm z  j
    exact cal_mk (N := ["n", "less", "found", "far", "some", "k"]) (ps := ["n"]) (k := 2 + j) [] F gm ⟨rfl, rfl, rfl, by decide +kernel, rfl, by decide +kernel, by decide +kernel⟩ (by decide) (fun _ _ _ _ _ _ us hl => match us, hl with | [_], _ => rfl) (fun cdv A outer s H E hr V0 => by
      exact
  (vss_cons (vs_if (vt_cmp (v_eq (by have := V0.room.un; omega)) (ve_var 0) ve_int) (vss_one (vs_retO (ve_lst (vd_cons ve_int vd_nil)))) vss_nil)
  (vss_cons (vs_asg V0.nd 1 (ve_call (mi := []) V0 ih.c (hr.mono (by omega)) (va_F (ve_op v_sub (ve_var 0) ve_int) va_nil)))
  (vss_cons (vs_own V0.nd 2 (ve_lst vd_nil))
  (vss_cons (vs_for V0 [3, 4] (vi_range1 z.f_range (ve_op v_add (ve_op v_fdiv (ve_op v_mul (ve_var 0) (ve_op v_sub (ve_var 0) ve_int)) ve_int) ve_int)) (vg_name V0.nd 3) (vss_cons (vs_asgLc V0 4 [("k", 5)] (t := (gName 5)) (vi_range1 z.f_range (ve_var 0)) (by kernel_rfl) (fun _ _ _ _ _ => pg_name V0.nd rfl (Or.inl rfl)) (sg_name (by decide)) (wg_name (by decide)) (fun s H C cl fp V0 => vc_no) (fun s H C cl fp V0 => (ve_op v_sub (ve_var 3) (ve_var 5))) (sw_true rfl rfl rfl (by decide +kernel))).1
  (vss_one (vs_expr (ve_mth v_append 2 PySem.F.slot_list_append PySem.F.type_list_append (vd_cons (ve_cb (v_sum V0.calm) z.f_sum b_sum (va_cons (ve_lc V0 [("k", 5)] (t := (gName 5)) (vi_seq (ve_var 4)) (by kernel_rfl) (fun _ _ _ _ _ => pg_name V0.nd rfl (Or.inl rfl)) (sg_name (by decide)) (wg_name (by decide)) (fun s H C cl fp V0 => (vc_if (vt_chain v_le v_lt ve_int (ve_var 5) (ve_cb (v_len) z.f_len b_len (va_cons (ve_var 1) va_nil))))) (fun s H C cl fp V0 => (ve_ix (ve_var 1) (ve_var 5)))) va_nil)) vd_nil))))))
  (vss_one (vs_retO (ve_var 2)))))))) (by omega)
theorem ok__law_swaps {a : Addr} {fd : FuncData} (F : FunD K "_law_swaps" "_law_swaps" (defArgs s__law_swaps) (defBody s__law_swaps) (defScope s__law_swaps) [] [] a fd) (gm : mg "_law_swaps" = some (.ref a)) (z : Fc K mg)  : CalK P w K mg base rhoT "_law_swaps" 1 [] h__law_swaps 32 := okr__law_swaps F gm z  30
theorem ok__law_within {a : Addr} {fd : FuncData} (F : FunD K "_law_within" "_law_within" (defArgs s__law_within) (defBody s__law_within) (defScope s__law_within) [] [] a fd) (gm : mg "_law_within" = some (.ref a)) (z : Fc K mg) (c__law_shifts : CalK P w K mg base rhoT "_law_shifts" 2 [] h__law_shifts 33) (c__law_spots : CalK P w K mg base rhoT "_law_spots" 1 [] h__law_spots 3) (c__law_swaps : CalK P w K mg base rhoT "_law_swaps" 1 [] h__law_swaps 32) : CalK P w K mg base rhoT "_law_within" 3 [] h__law_within 34 :=
  cal_mk (N := ["way", "n", "r", "counts", "far", "many"]) (ps := ["way", "n", "r"]) (k := 33) (g := b__law_within) [] F gm ⟨rfl, rfl, rfl, by decide +kernel, rfl, by decide +kernel, by decide +kernel⟩ (by decide) (fun _ _ _ _ _ _ us hl => match us, hl with | [_, _, _], _ => rfl) (fun cdv A outer s H E hr V0 => by
    exact
  (vss_cons (vs_if (vt_cmp (v_eq (by have := V0.room.un; omega)) (ve_var 0) ve_str) (vss_one (vs_retO (ve_call (mi := []) V0 c__law_shifts.c (hr.mono (by decide)) (va_F (ve_var 1) (va_F (ve_var 2) va_nil))))) vss_nil)
  (vss_cons (vs_asg V0.nd 3 (ve_pick V0 c__law_swaps.c c__law_spots.c (hr.mono (by decide)) (hr.mono (by decide)) (ve_ct v_int z.f_int b_int (va_cons (ve_cmp (v_eq (by have := V0.room.un; omega)) (ve_var 0) ve_str) va_nil)) (va_F (ve_var 1) va_nil)))
  (vss_one (vs_retO (ve_cb (v_sum V0.calm) z.f_sum b_sum (va_cons (ve_lc V0 [("far", 4), ("many", 5)] (t := (gTup K 2 (gCons (gName 4) (gCons (gName 5) gNil)))) (vi_enum z.f_enumerate (ve_var 3)) (by kernel_rfl) (fun _ _ _ _ _ => pg_tup V0.calm (pgs_cons (pg_name V0.nd rfl (Or.inl rfl)) (pgs_cons (pg_name V0.nd rfl (Or.inl rfl)) pgs_nil))) (sg_t2 (by decide) (by decide)) (wg_t2 (by decide) (by decide)) (fun s H C cl fp V0 => (vc_if (vt_cmp v_le (ve_var 4) (ve_var 2)))) (fun s H C cl fp V0 => (ve_var 5))) va_nil))))))) (by decide)
theorem ok_is_whole {a : Addr} {fd : FuncData} (F : FunD K "is_whole" "is_whole" (defArgs s_is_whole) (defBody s_is_whole) (defScope s_is_whole) [] [] a fd) (gm : mg "is_whole" = some (.ref a)) (z : Fc K mg)  : CalK P w K mg base rhoT "is_whole" 1 [] h_is_whole 2 :=
  cal_mk (N := ["thing"]) (ps := ["thing"]) (k := 1) (g := b_is_whole) [] F gm ⟨rfl, rfl, rfl, by decide +kernel, rfl, by decide +kernel, by decide +kernel⟩ (by decide) (fun _ _ _ _ _ _ us hl => match us, hl with | [_], _ => rfl) (fun cdv A outer s H E hr V0 => by
    exact
  (vss_one (vs_retO (ve_and (ve_isi .int (ve_var 0) z.f_isinstance z.f_int b_int) (ve_one (ve_not (ve_isi .bool (ve_var 0) z.f_isinstance z.f_bool b_bool))))))) (by decide)
theorem ok_need_reach {a : Addr} {fd : FuncData} (F : FunD K "need_reach" "need_reach" (defArgs s_need_reach) (defBody s_need_reach) (defScope s_need_reach) [] [] a fd) (gm : mg "need_reach" = some (.ref a)) (z : Fc K mg) (c_is_whole : CalK P w K mg base rhoT "is_whole" 1 [] h_is_whole 2) : CalK P w K mg base rhoT "need_reach" 1 [] h_need_reach 3 :=
  cal_mk (N := ["r"]) (ps := ["r"]) (k := 2) (g := b_need_reach) [] F gm ⟨rfl, rfl, rfl, by decide +kernel, rfl, by decide +kernel, by decide +kernel⟩ (by decide) (fun _ _ _ _ _ _ us hl => match us, hl with | [_], _ => rfl) (fun cdv A outer s H E hr V0 => by
    exact
  (vss_one (vs_if (VW.vt (vw_or (vt_not (vt_of (fun _ => rfl) (ve_callP V0 c_is_whole.c (hr.mono (by decide)) (va_P (ve_var 0) va_nil)))) (vw_or1 (vt_cmp v_lt (ve_var 0) ve_int)))) (vss_one (vs_raise V0 z.x_NoNumber)) vss_nil))) (by decide)
theorem ok_need_things {a : Addr} {fd : FuncData} (F : FunD K "need_things" "need_things" (defArgs s_need_things) (defBody s_need_things) (defScope s_need_things) [] [] a fd) (gm : mg "need_things" = some (.ref a)) (z : Fc K mg) (c_is_whole : CalK P w K mg base rhoT "is_whole" 1 [] h_is_whole 2) : CalK P w K mg base rhoT "need_things" 1 [] h_need_things 3 :=
  cal_mk (N := ["n"]) (ps := ["n"]) (k := 2) (g := b_need_things) [] F gm ⟨rfl, rfl, rfl, by decide +kernel, rfl, by decide +kernel, by decide +kernel⟩ (by decide) (fun _ _ _ _ _ _ us hl => match us, hl with | [_], _ => rfl) (fun cdv A outer s H E hr V0 => by
    exact
  (vss_one (vs_if (VW.vt (vw_or (vt_not (vt_of (fun _ => rfl) (ve_callP V0 c_is_whole.c (hr.mono (by decide)) (va_P (ve_var 0) va_nil)))) (vw_or1 (vt_not (vt_chain v_le v_le ve_int (ve_var 0) (ve_gint z.i_MOST_THINGS)))))) (vss_one (vs_raise V0 z.x_NoNumber)) vss_nil))) (by decide)
theorem ok_need_way {a : Addr} {fd : FuncData} (F : FunD K "need_way" "need_way" (defArgs s_need_way) (defBody s_need_way) (defScope s_need_way) [] [] a fd) (gm : mg "need_way" = some (.ref a)) (z : Fc K mg)  : CalK P w K mg base rhoT "need_way" 1 [] h_need_way 2 :=
  cal_mk (N := ["way"]) (ps := ["way"]) (k := 1) (g := b_need_way) [] F gm ⟨rfl, rfl, rfl, by decide +kernel, rfl, by decide +kernel, by decide +kernel⟩ (by decide) (fun _ _ _ _ _ _ us hl => match us, hl with | [_], _ => rfl) (fun cdv A outer s H E hr V0 => by
    exact
  (vss_one (vs_if (VW.vt (vw_or (vt_not (vt_of (fun _ => rfl) (ve_isi .str (ve_var 0) z.f_isinstance z.f_str b_str))) (vw_or1 (vt_notInT (ve_var 0) z.t_WAYS)))) (vss_one (vs_raise V0 z.x_NoWay)) vss_nil))) (by decide)
theorem ok_by_spot {a : Addr} {fd : FuncData} (F : FunD K "by_spot" "by_spot" (defArgs s_by_spot) (defBody s_by_spot) (defScope s_by_spot) [] [] a fd) (gm : mg "by_spot" = some (.ref a)) (z : Fc K mg)  : CalK P w K mg base rhoT "by_spot" 1 [] h_by_spot 2 :=
  cal_mk (N := ["n", "nowhere", "k", "chosen", "found"]) (ps := ["n"]) (k := 1) (g := b_by_spot) [] F gm ⟨rfl, rfl, rfl, by decide +kernel, rfl, by decide +kernel, by decide +kernel⟩ (by decide) (fun _ _ _ _ _ _ us hl => match us, hl with | [_], _ => rfl) (fun cdv A outer s H E hr V0 => by
    exact
  (vss_cons (vs_own V0.nd 1 (ve_lst (vd_cons ve_int (vd_cons ve_int vd_nil))))
  (vss_cons (vs_for V0 [2] (vi_range2 z.f_range ve_int (ve_op v_add (ve_var 0) ve_int)) (vg_name V0.nd 2) (vss_one (vs_expr (ve_mth v_append 1 PySem.F.slot_list_append PySem.F.type_list_append (vd_cons (ve_op v_mul (ve_op v_sub (ve_var 2) ve_int) (ve_op v_add (ve_ix (ve_var 1) (ve_un v_neg ve_int)) (ve_ix (ve_var 1) (ve_un v_neg ve_int)))) vd_nil)))))
  (vss_cons (vs_asg V0.nd 3 ve_int)
  (vss_cons (vs_own V0.nd 4 (ve_lst vd_nil))
  (vss_cons (vs_for V0 [2] (vi_range1 z.f_range (ve_op v_add (ve_var 0) ve_int)) (vg_name V0.nd 2) (vss_cons (vs_expr (ve_mth v_append 4 PySem.F.slot_list_append PySem.F.type_list_append (vd_cons (ve_op v_mul (ve_var 3) (ve_ix (ve_var 1) (ve_var 2))) vd_nil)))
  (vss_one (vs_asg V0.nd 3 (ve_op v_fdiv (ve_op v_mul (ve_var 3) (ve_op v_sub (ve_var 0) (ve_var 2))) (ve_op v_add (ve_var 2) ve_int))))))
  (vss_one (vs_retO (ve_var 4))))))))) (by decide)
theorem ok_by_swap {a : Addr} {fd : FuncData} (F : FunD K "by_swap" "by_swap" (defArgs s_by_swap) (defBody s_by_swap) (defScope s_by_swap) [] [] a fd) (gm : mg "by_swap" = some (.ref a)) (z : Fc K mg)  : CalK P w K mg base rhoT "by_swap" 1 [] h_by_swap 2 :=
  cal_mk (N := ["n", "found", "k", "wider", "at", "many", "more"]) (ps := ["n"]) (k := 1) (g := b_by_swap) [] F gm ⟨rfl, rfl, rfl, by decide +kernel, rfl, by decide +kernel, by decide +kernel⟩ (by decide) (fun _ _ _ _ _ _ us hl => match us, hl with | [_], _ => rfl) (fun cdv A outer s H E hr V0 => by
    exact
  (vss_cons (vs_own V0.nd 1 (ve_lst (vd_cons ve_int vd_nil)))
  (vss_cons (vs_for V0 [2, 3, 4, 5, 6] (vi_range2 z.f_range ve_int (ve_op v_add (ve_var 0) ve_int)) (vg_name V0.nd 2) (vss_cons (vs_own V0.nd 3 (ve_op v_mul (ve_lst (vd_cons ve_int vd_nil)) (ve_op v_sub (ve_op v_add (ve_cb (v_len) z.f_len b_len (va_cons (ve_var 1) va_nil)) (ve_var 2)) ve_int)))
  (vss_cons (vs_for V0 [4, 5, 6] (vi_enum z.f_enumerate (ve_var 1)) (vg_t2 V0.nd V0.calm 4 5) (vss_one (vs_for V0 [6] (vi_range1 z.f_range (ve_var 2)) (vg_name V0.nd 6) (vss_one (vs_augAt V0 3 i_add (ve_op v_add (ve_var 4) (ve_var 6)) (ve_var 5))))))
  (vss_one (vs_asg V0.nd 1 (ve_var 3))))))
  (vss_one (vs_retO (ve_var 1)))))) (by decide)
theorem ok_shifted_within {a : Addr} {fd : FuncData} (F : FunD K "shifted_within" "shifted_within" (defArgs s_shifted_within) (defBody s_shifted_within) (defScope s_shifted_within) [] [] a fd) (gm : mg "shifted_within" = some (.ref a)) (z : Fc K mg)  : CalK P w K mg base rhoT "shifted_within" 2 [] h_shifted_within 2 :=
  cal_mk (N := ["n", "r", "ways", "thing", "wider", "taken", "many", "place", "more"]) (ps := ["n", "r"]) (k := 1) (g := b_shifted_within) [] F gm ⟨rfl, rfl, rfl, by decide +kernel, rfl, by decide +kernel, by decide +kernel⟩ (by decide) (fun _ _ _ _ _ _ us hl => match us, hl with | [_, _], _ => rfl) (fun cdv A outer s H E hr V0 => by
    exact
  (vss_cons (vs_asg V0.nd 2 (ve_disp (vp_cons ve_int ve_int vp_nil)))
  (vss_cons (vs_for V0 [3, 4, 5, 6, 7, 8] (vi_range1 z.f_range (ve_var 0)) (vg_name V0.nd 3) (vss_cons (vs_own V0.nd 4 ve_dnew)
  (vss_cons (vs_for V0 [5, 6, 7, 8] (vi_seq (ve_listItems V0.calm z.f_list (ve_var 2))) (vg_t2 V0.nd V0.calm 5 6) (vss_one (vs_for V0 [7, 8] (vi_range2 z.f_range (ve_cb (v_max V0.calm) z.f_max b_max (va_cons ve_int (va_cons (ve_op v_sub (ve_var 3) (ve_var 1)) va_nil))) (ve_cb (v_min V0.calm) z.f_min b_min (va_cons (ve_var 0) (va_cons (ve_op v_add (ve_op v_add (ve_var 3) (ve_var 1)) ve_int) va_nil)))) (vg_name V0.nd 7) (vss_one (vs_if (vt_cmp (v_eq (by have := V0.room.un; omega)) (ve_op v_and (ve_op v_shr (ve_var 5) (ve_var 7)) ve_int) ve_int) (vss_cons (vs_asg V0.nd 8 (ve_op v_or (ve_var 5) (ve_op v_shl ve_int (ve_var 7))))
  (vss_one (vs_putD (by have := V0.room.un; omega) 4 (ve_var 8) (ve_op v_add (ve_dget2 (by have := V0.room.un; omega) (ve_var 4) (ve_var 8) ve_int) (ve_var 6))))) vss_nil)))))
  (vss_one (vs_asg V0.nd 2 (ve_var 4))))))
  (vss_one (vs_retO (ve_cb (v_sum V0.calm) z.f_sum b_sum (va_cons (ve_listVals V0.calm z.f_list (ve_var 2)) va_nil))))))) (by decide)
theorem ok_within_by {a : Addr} {fd : FuncData} (F : FunD K "within_by" "within_by" (defArgs s_within_by) (defBody s_within_by) (defScope s_within_by) [] [] a fd) (gm : mg "within_by" = some (.ref a)) (z : Fc K mg) (c_by_spot : CalK P w K mg base rhoT "by_spot" 1 [] h_by_spot 2) (c_by_swap : CalK P w K mg base rhoT "by_swap" 1 [] h_by_swap 2) (c_shifted_within : CalK P w K mg base rhoT "shifted_within" 2 [] h_shifted_within 2) : CalK P w K mg base rhoT "within_by" 3 [] h_within_by 3 :=
  cal_mk (N := ["way", "n", "r", "counts"]) (ps := ["way", "n", "r"]) (k := 2) (g := b_within_by) [] F gm ⟨rfl, rfl, rfl, by decide +kernel, rfl, by decide +kernel, by decide +kernel⟩ (by decide) (fun _ _ _ _ _ _ us hl => match us, hl with | [_, _, _], _ => rfl) (fun cdv A outer s H E hr V0 => by
    exact
  (vss_cons (vs_if (vt_cmp v_lt (ve_var 2) ve_int) (vss_one (vs_retO ve_int)) vss_nil)
  (vss_cons (vs_if (vt_cmp (v_eq (by have := V0.room.un; omega)) (ve_var 0) ve_str) (vss_one (vs_retO (ve_callP V0 c_shifted_within.c (hr.mono (by decide)) (va_P (ve_var 1) (va_P (ve_cb (v_min V0.calm) z.f_min b_min (va_cons (ve_var 2) (va_cons (ve_op v_sub (ve_var 1) ve_int) va_nil))) va_nil))))) vss_nil)
  (vss_cons (vs_asg V0.nd 3 (ve_call (mi := []) V0 c_by_spot.c (hr.mono (by decide)) (va_F (ve_var 1) va_nil)))
  (vss_cons (vs_if (vt_cmp (v_eq (by have := V0.room.un; omega)) (ve_var 0) ve_str) (vss_one (vs_asg V0.nd 3 (ve_call (mi := []) V0 c_by_swap.c (hr.mono (by decide)) (va_F (ve_var 1) va_nil)))) vss_nil)
  (vss_one (vs_retO (ve_cb (v_sum V0.calm) z.f_sum b_sum (va_cons (ve_sl (ve_var 3) vo_no (vo_some (ve_op v_add (ve_cb (v_min V0.calm) z.f_min b_min (va_cons (ve_var 2) (va_cons (ve_op v_mul (ve_var 1) (ve_var 1)) va_nil))) ve_int))) va_nil))))))))) (by decide)
theorem ok_count_at {a : Addr} {fd : FuncData} (F : FunD K "count_at" "count_at" (defArgs s_count_at) (defBody s_count_at) (defScope s_count_at) [] [] a fd) (gm : mg "count_at" = some (.ref a)) (z : Fc K mg) (c_need_reach : CalK P w K mg base rhoT "need_reach" 1 [] h_need_reach 3) (c_need_things : CalK P w K mg base rhoT "need_things" 1 [] h_need_things 3) (c_need_way : CalK P w K mg base rhoT "need_way" 1 [] h_need_way 2) (c_within_by : CalK P w K mg base rhoT "within_by" 3 [] h_within_by 3) : CalK P w K mg base rhoT "count_at" 3 [] h_count_at 4 :=
  cal_mk (N := ["way", "n", "r"]) (ps := ["way", "n", "r"]) (k := 3) (g := b_count_at) [] F gm ⟨rfl, rfl, rfl, by decide +kernel, rfl, by decide +kernel, by decide +kernel⟩ (by decide) (fun _ _ _ _ _ _ us hl => match us, hl with | [_, _, _], _ => rfl) (fun cdv A outer s H E hr V0 => by
    exact
  (vss_cons (vs_expr (ve_callP V0 c_need_way.c (hr.mono (by decide)) (va_P (ve_var 0) va_nil)))
  (vss_cons (vs_expr (ve_callP V0 c_need_things.c (hr.mono (by decide)) (va_P (ve_var 1) va_nil)))
  (vss_cons (vs_expr (ve_callP V0 c_need_reach.c (hr.mono (by decide)) (va_P (ve_var 2) va_nil)))
  (vss_one (vs_retO (ve_op v_sub (ve_callP V0 c_within_by.c (hr.mono (by decide)) (va_P (ve_var 0) (va_P (ve_var 1) (va_P (ve_var 2) va_nil)))) (ve_callP V0 c_within_by.c (hr.mono (by decide)) (va_P (ve_var 0) (va_P (ve_var 1) (va_P (ve_op v_sub (ve_var 2) ve_int) va_nil))))))))))) (by decide)
theorem ok_count_within {a : Addr} {fd : FuncData} (F : FunD K "count_within" "count_within" (defArgs s_count_within) (defBody s_count_within) (defScope s_count_within) [] [] a fd) (gm : mg "count_within" = some (.ref a)) (z : Fc K mg) (c_need_reach : CalK P w K mg base rhoT "need_reach" 1 [] h_need_reach 3) (c_need_things : CalK P w K mg base rhoT "need_things" 1 [] h_need_things 3) (c_need_way : CalK P w K mg base rhoT "need_way" 1 [] h_need_way 2) (c_within_by : CalK P w K mg base rhoT "within_by" 3 [] h_within_by 3) : CalK P w K mg base rhoT "count_within" 3 [] h_count_within 4 :=
  cal_mk (N := ["way", "n", "r"]) (ps := ["way", "n", "r"]) (k := 3) (g := b_count_within) [] F gm ⟨rfl, rfl, rfl, by decide +kernel, rfl, by decide +kernel, by decide +kernel⟩ (by decide) (fun _ _ _ _ _ _ us hl => match us, hl with | [_, _, _], _ => rfl) (fun cdv A outer s H E hr V0 => by
    exact
  (vss_cons (vs_expr (ve_callP V0 c_need_way.c (hr.mono (by decide)) (va_P (ve_var 0) va_nil)))
  (vss_cons (vs_expr (ve_callP V0 c_need_things.c (hr.mono (by decide)) (va_P (ve_var 1) va_nil)))
  (vss_cons (vs_expr (ve_callP V0 c_need_reach.c (hr.mono (by decide)) (va_P (ve_var 2) va_nil)))
  (vss_one (vs_retO (ve_callP V0 c_within_by.c (hr.mono (by decide)) (va_P (ve_var 0) (va_P (ve_var 1) (va_P (ve_var 2) va_nil)))))))))) (by decide)
theorem ok__law_right {a : Addr} {fd : FuncData} (F : FunD K "_law_right" "_law_right" (defArgs s__law_right) (defBody s__law_right) (defScope s__law_right) [] [] a fd) (gm : mg "_law_right" = some (.ref a)) (z : Fc K mg) (c__law_whole : CalK P w K mg base rhoT "_law_whole" 2 [] h__law_whole 2) (c__law_within : CalK P w K mg base rhoT "_law_within" 3 [] h__law_within 34) (c_count_at : CalK P w K mg base rhoT "count_at" 3 [] h_count_at 4) (c_count_within : CalK P w K mg base rhoT "count_within" 3 [] h_count_within 4) : CalK P w K mg base rhoT "_law_right" 3 [] h__law_right 35 :=
  cal_mk (N := ["way", "n", "r", "due", "less", "again"]) (ps := ["way", "n", "r"]) (k := 34) (g := b__law_right) [] F gm ⟨rfl, rfl, rfl, by decide +kernel, rfl, by decide +kernel, by decide +kernel⟩ (by decide) (fun _ _ _ _ _ _ us hl => match us, hl with | [_, _, _], _ => rfl) (fun cdv A outer s H E hr V0 => by
    exact
  (vss_cons (vs_asg V0.nd 3 (ve_call (mi := []) V0 c__law_within.c (hr.mono (by decide)) (va_F (ve_var 0) (va_F (ve_var 1) (va_F (ve_var 2) va_nil)))))
  (vss_cons (vs_asg V0.nd 4 ve_int)
  (vss_cons (vs_if (vt_cmp v_gt (ve_var 2) ve_int) (vss_one (vs_asg V0.nd 4 (ve_call (mi := []) V0 c__law_within.c (hr.mono (by decide)) (va_F (ve_var 0) (va_F (ve_var 1) (va_F (ve_op v_sub (ve_var 2) ve_int) va_nil)))))) vss_nil)
  (vss_cons (vs_for V0 [5] (vi_range1 z.f_range ve_int) (vg_name V0.nd 5) (vss_cons (vs_if (vt_not (vt_of (fun _ => rfl) (ve_callP V0 c__law_whole.c (hr.mono (by decide)) (va_P (ve_callP V0 c_count_within.c (hr.mono (by decide)) (va_P (ve_var 0) (va_P (ve_var 1) (va_P (ve_var 2) va_nil)))) (va_P (ve_var 3) va_nil))))) (vss_one (vs_retO ve_bl)) vss_nil)
  (vss_one (vs_if (vt_not (vt_of (fun _ => rfl) (ve_callP V0 c__law_whole.c (hr.mono (by decide)) (va_P (ve_callP V0 c_count_at.c (hr.mono (by decide)) (va_P (ve_var 0) (va_P (ve_var 1) (va_P (ve_var 2) va_nil)))) (va_P (ve_op v_sub (ve_var 3) (ve_var 4)) va_nil))))) (vss_one (vs_retO ve_bl)) vss_nil))))
  (vss_one (vs_retO ve_bl))))))) (by decide)
theorem ok__law_take {a : Addr} {fd : FuncData} (F : FunD K "_law_take" "_law_take" (defArgs s__law_take) (defBody s__law_take) (defScope s__law_take) [] [] a fd) (gm : mg "_law_take" = some (.ref a)) (z : Fc K mg)  : CalK P w K mg base rhoT "_law_take" 2 [0] h__law_take 2 :=
  cal_mk (N := ["store", "many"]) (ps := ["store", "many"]) (k := 1) (g := b__law_take) [0] F gm ⟨rfl, rfl, rfl, by decide +kernel, rfl, by decide +kernel, by decide +kernel⟩ (by decide) (fun _ _ _ _ _ _ us hl => match us, hl with | [_, _], _ => rfl) (fun cdv A outer s H E hr V0 => by
    exact
  (vss_cons (vs_put 0 ve_int (ve_op v_add (ve_ix (ve_var 0) ve_int) ve_int))
  (vss_one (vs_retO (ve_op v_mod (ve_ix (ve_ix (ve_var 0) ve_int) (ve_op v_mod (ve_op v_sub (ve_ix (ve_var 0) ve_int) ve_int) (ve_cb (v_len) z.f_len b_len (va_cons (ve_ix (ve_var 0) ve_int) va_nil)))) (ve_var 1)))))) (by decide)
theorem ok_law {a : Addr} {fd : FuncData} (F : FunD K "law" "law" (defArgs s_law) (defBody s_law) (defScope s_law) [] [] a fd) (z : Fc K mg) (c__law_draws : CalK P w K mg base rhoT "_law_draws" 2 [] h__law_draws 2) (c__law_right : CalK P w K mg base rhoT "_law_right" 3 [] h__law_right 35) (c__law_take : CalK P w K mg base rhoT "_law_take" 2 [0] h__law_take 2) : FnG P w K mg base 36 a fd ["script"] (spV ⟨K, mg, rhoT⟩ 1 [] h_law) :=
  fn_mkV (N := ["script", "store", "turn", "n", "way", "most", "some", "r", "size"]) (ps := ["script"]) (k := 35) (g := b_law) [] F ⟨rfl, rfl, rfl, by decide +kernel, rfl, by decide +kernel, by decide +kernel⟩ (by decide) (fun cdv A outer s H E hr V0 => by
    exact
  (vss_cons (vs_own V0.nd 1 (ve_lst (vd_cons (ve_call (mi := []) V0 c__law_draws.c (hr.mono (by decide)) (va_F (ve_var 0) (va_F ve_int va_nil))) (vd_cons ve_int vd_nil))))
  (vss_cons (vs_for V0 [2, 3, 4, 5, 6, 7, 8] (vi_range1 z.f_range ve_int) (vg_name V0.nd 2) (vss_cons (vs_asg V0.nd 3 (ve_ix (ve_lst (vd_cons (ve_op v_add ve_int (ve_call (mi := [(0, 1)]) V0 c__law_take.c (hr.mono (by decide)) (va_M 1 (va_F ve_int va_nil)))) (vd_cons ve_int (vd_cons (ve_op v_add ve_int (ve_call (mi := [(0, 1)]) V0 c__law_take.c (hr.mono (by decide)) (va_M 1 (va_F ve_int va_nil)))) vd_nil)))) (ve_call (mi := [(0, 1)]) V0 c__law_take.c (hr.mono (by decide)) (va_M 1 (va_F ve_int va_nil)))))
  (vss_one (vs_for V0 [4, 5, 6, 7, 8] (vi_seq (ve_lst (vd_cons ve_str (vd_cons ve_str (vd_cons ve_str vd_nil))))) (vg_name V0.nd 4) (vss_cons (vs_asg V0.nd 5 (ve_dix (by have := V0.room.un; omega) (ve_disp (vp_cons ve_str (ve_op v_fdiv (ve_op v_mul (ve_var 3) (ve_op v_sub (ve_var 3) ve_int)) ve_int) (vp_cons ve_str (ve_var 3) (vp_cons ve_str (ve_op v_sub (ve_var 3) ve_int) vp_nil)))) (ve_var 4)))
  (vss_cons (vs_asg V0.nd 6 (ve_lst (vd_cons (ve_call (mi := [(0, 1)]) V0 c__law_take.c (hr.mono (by decide)) (va_M 1 (va_F ve_int va_nil))) (vd_cons (ve_call (mi := [(0, 1)]) V0 c__law_take.c (hr.mono (by decide)) (va_M 1 (va_F (ve_op v_add (ve_var 5) ve_int) va_nil))) (vd_cons (ve_var 5) (vd_cons (ve_op v_add (ve_var 5) ve_int) vd_nil))))))
  (vss_cons (vs_asg V0.nd 6 (ve_op v_add (ve_var 6) (ve_lst (vd_cons (ve_cb (v_max V0.calm) z.f_max b_max (va_cons ve_int (va_cons (ve_op v_sub (ve_var 5) ve_int) va_nil))) (vd_cons (ve_ix (ve_lst (vd_cons (ve_op v_pow ve_int ve_int) (vd_cons (ve_op v_add (ve_var 5) (ve_call (mi := [(0, 1)]) V0 c__law_take.c (hr.mono (by decide)) (va_M 1 (va_F ve_int va_nil)))) vd_nil))) (ve_op v_mod (ve_var 2) ve_int)) vd_nil)))))
  (vss_cons (vs_asg V0.nd 7 (ve_ix (ve_var 6) (ve_call (mi := [(0, 1)]) V0 c__law_take.c (hr.mono (by decide)) (va_M 1 (va_F ve_int va_nil)))))
  (vss_cons (vs_asg V0.nd 8 (ve_ix (ve_lst (vd_cons (ve_var 3) (vd_cons (ve_cb (v_min V0.calm) z.f_min b_min (va_cons (ve_var 3) (va_cons ve_int va_nil))) vd_nil))) (ve_ct v_int z.f_int b_int (va_cons (ve_and (ve_cmp (v_eq (by have := V0.room.un; omega)) (ve_var 4) ve_str) (ve_one (ve_cmp v_gt (ve_var 2) ve_int))) va_nil))))
  (vss_one (vs_if (vt_not (vt_of (fun _ => rfl) (ve_callP V0 c__law_right.c (hr.mono (by decide)) (va_P (ve_var 4) (va_P (ve_var 8) (va_P (ve_var 7) va_nil)))))) (vss_one (vs_retO ve_bl)) vss_nil)))))))))))
  (vss_one (vs_retO ve_bl))))) (by decide)
end
def d__law_draws : He.DefD := ⟨("_law_draws", none), "_law_draws", "_law_draws", defArgs s__law_draws, defBody s__law_draws, defScope s__law_draws, [], []⟩
def d__law_whole : He.DefD := ⟨("_law_whole", none), "_law_whole", "_law_whole", defArgs s__law_whole, defBody s__law_whole, defScope s__law_whole, [], []⟩
def d__law_fill : He.DefD := ⟨("_law_fill", none), "_law_fill", "_law_fill", defArgs s__law_fill, defBody s__law_fill, defScope s__law_fill, [], []⟩
def d__law_shifts : He.DefD := ⟨("_law_shifts", none), "_law_shifts", "_law_shifts", defArgs s__law_shifts, defBody s__law_shifts, defScope s__law_shifts, [], []⟩
def d__law_chosen : He.DefD := ⟨("_law_chosen", none), "_law_chosen", "_law_chosen", defArgs s__law_chosen, defBody s__law_chosen, defScope s__law_chosen, [], []⟩
def d__law_spots : He.DefD := ⟨("_law_spots", none), "_law_spots", "_law_spots", defArgs s__law_spots, defBody s__law_spots, defScope s__law_spots, [], []⟩
def d__law_swaps : He.DefD := ⟨("_law_swaps", none), "_law_swaps", "_law_swaps", defArgs s__law_swaps, defBody s__law_swaps, defScope s__law_swaps, [], []⟩
def d__law_within : He.DefD := ⟨("_law_within", none), "_law_within", "_law_within", defArgs s__law_within, defBody s__law_within, defScope s__law_within, [], []⟩
def d_is_whole : He.DefD := ⟨("is_whole", none), "is_whole", "is_whole", defArgs s_is_whole, defBody s_is_whole, defScope s_is_whole, [], []⟩
def d_need_reach : He.DefD := ⟨("need_reach", none), "need_reach", "need_reach", defArgs s_need_reach, defBody s_need_reach, defScope s_need_reach, [], []⟩
def d_need_things : He.DefD := ⟨("need_things", none), "need_things", "need_things", defArgs s_need_things, defBody s_need_things, defScope s_need_things, [], []⟩
def d_need_way : He.DefD := ⟨("need_way", none), "need_way", "need_way", defArgs s_need_way, defBody s_need_way, defScope s_need_way, [], []⟩
def d_by_spot : He.DefD := ⟨("by_spot", none), "by_spot", "by_spot", defArgs s_by_spot, defBody s_by_spot, defScope s_by_spot, [], []⟩
def d_by_swap : He.DefD := ⟨("by_swap", none), "by_swap", "by_swap", defArgs s_by_swap, defBody s_by_swap, defScope s_by_swap, [], []⟩
def d_shifted_within : He.DefD := ⟨("shifted_within", none), "shifted_within", "shifted_within", defArgs s_shifted_within, defBody s_shifted_within, defScope s_shifted_within, [], []⟩
def d_within_by : He.DefD := ⟨("within_by", none), "within_by", "within_by", defArgs s_within_by, defBody s_within_by, defScope s_within_by, [], []⟩
def d_count_at : He.DefD := ⟨("count_at", none), "count_at", "count_at", defArgs s_count_at, defBody s_count_at, defScope s_count_at, [], []⟩
def d_count_within : He.DefD := ⟨("count_within", none), "count_within", "count_within", defArgs s_count_within, defBody s_count_within, defScope s_count_within, [], []⟩
def d__law_right : He.DefD := ⟨("_law_right", none), "_law_right", "_law_right", defArgs s__law_right, defBody s__law_right, defScope s__law_right, [], []⟩
def d__law_take : He.DefD := ⟨("_law_take", none), "_law_take", "_law_take", defArgs s__law_take, defBody s__law_take, defScope s__law_take, [], []⟩
def d_law : He.DefD := ⟨("law", none), "law", "law", defArgs s_law, defBody s_law, defScope s_law, [], []⟩
def fn : List He.DefD := [d__law_draws, d__law_whole, d__law_fill, d__law_shifts, d__law_chosen, d__law_spots, d__law_swaps, d__law_within, d_is_whole, d_need_reach, d_need_things, d_need_way, d_by_spot, d_by_swap, d_shifted_within, d_within_by, d_count_at, d_count_within, d__law_right, d__law_take, d_law]
def fa0 : List He.Fa := [.glo "_law_draws", .glo "_law_whole", .glo "_law_fill", .glo "_law_shifts", .glo "_law_chosen", .glo "_law_spots", .glo "_law_swaps", .glo "_law_within", .glo "is_whole", .glo "need_reach", .glo "need_things", .glo "need_way", .glo "by_spot", .glo "by_swap", .glo "shifted_within", .glo "within_by", .glo "count_at", .glo "count_within", .glo "_law_right", .glo "_law_take", .glo "law", .exc "NoNumber", .glo "NoNumber", .exc "NoWay", .glo "NoWay", .free "abs", .free "bool", .free "enumerate", .free "int", .free "isinstance"]
def fa1 : List He.Fa := [.free "len", .free "list", .free "max", .free "min", .free "range", .free "str", .free "sum", .free "tuple", .int "MOST_THINGS" 12]
def fa : List He.Fa := fa0 ++ fa1
def exf (K : PySem.W.Frag) : Bool := (tupB "WAYS" ["swap", "spot", "shift"] K)
abbrev nm : List Str := (["OrderError", "NoWay", "NoNumber", "MOST_THINGS", "WAYS", "is_whole", "need_way", "need_things", "need_reach", "by_swap", "by_spot", "shifted_within", "within_by", "count_within", "count_at", "_law_draws", "_law_take", "_law_swaps", "_law_chosen", "_law_spots", "_law_fill", "_law_shifts", "_law_within", "_law_whole", "_law_right"] : List Str)
abbrev RW_ : PySem.W.OpenRow := PySem.W.OpenLaw.row PySem.Challenge.rw_farorders_k15_how_many_within
abbrev hk : PySem.W.Hook := He.hookX 4 fa fn [] [] exf
def obW (s : PySem.W.SharedT) : He.AlX := He.obsX 4 fa fn [] [] exf (HandSHeadRun.getT s)
theorem ob_eq (s : PySem.W.SharedT) : obW s = hk.obs s.abs := He.obsX_eq (HandSHeadRun.getT_eq s)
theorem run (w : World) : HandSHeadRun.RunEq RW_ (PySem.W.view RW_.prog [29]) hk obW 4000 nm w := by
  intro os
  kernel_rfl
theorem facts {P : Program} {w : World} {K : PySem.W.Frag} {h : Heap} {mg : Str → Option Value} {f : Addr} (X : K.In h) (G : h.Ns mainGlobals mg) (hfa : mg ("law" : Str) = some (.ref f)) (c : He.SaysD fa fn K) (cx : exf K = true) :
    ∃ fd : FuncData, (∀ (s : Shared) (v : Value), BindsTo s fd ⟨[v], []⟩ [("script", v)]) ∧ ∀ base : Heap, K.In base → base.Ns mainGlobals mg → FnG P w K mg base 36 f fd ["script"] (spV ⟨K, mg, rhoT⟩ 1 [] h_law) := by
  obtain ⟨fd__law_draws, F__law_draws⟩ := c.def_ 0 (d := d__law_draws) rfl
  have g__law_draws := He.glo_ok X G (c.fact 0 (f := .glo "_law_draws") rfl)
  obtain ⟨fd__law_whole, F__law_whole⟩ := c.def_ 1 (d := d__law_whole) rfl
  have g__law_whole := He.glo_ok X G (c.fact 1 (f := .glo "_law_whole") rfl)
  obtain ⟨fd__law_fill, F__law_fill⟩ := c.def_ 2 (d := d__law_fill) rfl
  have g__law_fill := He.glo_ok X G (c.fact 2 (f := .glo "_law_fill") rfl)
  obtain ⟨fd__law_shifts, F__law_shifts⟩ := c.def_ 3 (d := d__law_shifts) rfl
  have g__law_shifts := He.glo_ok X G (c.fact 3 (f := .glo "_law_shifts") rfl)
  obtain ⟨fd__law_chosen, F__law_chosen⟩ := c.def_ 4 (d := d__law_chosen) rfl
  have g__law_chosen := He.glo_ok X G (c.fact 4 (f := .glo "_law_chosen") rfl)
  obtain ⟨fd__law_spots, F__law_spots⟩ := c.def_ 5 (d := d__law_spots) rfl
  have g__law_spots := He.glo_ok X G (c.fact 5 (f := .glo "_law_spots") rfl)
  obtain ⟨fd__law_swaps, F__law_swaps⟩ := c.def_ 6 (d := d__law_swaps) rfl
  have g__law_swaps := He.glo_ok X G (c.fact 6 (f := .glo "_law_swaps") rfl)
  obtain ⟨fd__law_within, F__law_within⟩ := c.def_ 7 (d := d__law_within) rfl
  have g__law_within := He.glo_ok X G (c.fact 7 (f := .glo "_law_within") rfl)
  obtain ⟨fd_is_whole, F_is_whole⟩ := c.def_ 8 (d := d_is_whole) rfl
  have g_is_whole := He.glo_ok X G (c.fact 8 (f := .glo "is_whole") rfl)
  obtain ⟨fd_need_reach, F_need_reach⟩ := c.def_ 9 (d := d_need_reach) rfl
  have g_need_reach := He.glo_ok X G (c.fact 9 (f := .glo "need_reach") rfl)
  obtain ⟨fd_need_things, F_need_things⟩ := c.def_ 10 (d := d_need_things) rfl
  have g_need_things := He.glo_ok X G (c.fact 10 (f := .glo "need_things") rfl)
  obtain ⟨fd_need_way, F_need_way⟩ := c.def_ 11 (d := d_need_way) rfl
  have g_need_way := He.glo_ok X G (c.fact 11 (f := .glo "need_way") rfl)
  obtain ⟨fd_by_spot, F_by_spot⟩ := c.def_ 12 (d := d_by_spot) rfl
  have g_by_spot := He.glo_ok X G (c.fact 12 (f := .glo "by_spot") rfl)
  obtain ⟨fd_by_swap, F_by_swap⟩ := c.def_ 13 (d := d_by_swap) rfl
  have g_by_swap := He.glo_ok X G (c.fact 13 (f := .glo "by_swap") rfl)
  obtain ⟨fd_shifted_within, F_shifted_within⟩ := c.def_ 14 (d := d_shifted_within) rfl
  have g_shifted_within := He.glo_ok X G (c.fact 14 (f := .glo "shifted_within") rfl)
  obtain ⟨fd_within_by, F_within_by⟩ := c.def_ 15 (d := d_within_by) rfl
  have g_within_by := He.glo_ok X G (c.fact 15 (f := .glo "within_by") rfl)
  obtain ⟨fd_count_at, F_count_at⟩ := c.def_ 16 (d := d_count_at) rfl
  have g_count_at := He.glo_ok X G (c.fact 16 (f := .glo "count_at") rfl)
  obtain ⟨fd_count_within, F_count_within⟩ := c.def_ 17 (d := d_count_within) rfl
  have g_count_within := He.glo_ok X G (c.fact 17 (f := .glo "count_within") rfl)
  obtain ⟨fd__law_right, F__law_right⟩ := c.def_ 18 (d := d__law_right) rfl
  have g__law_right := He.glo_ok X G (c.fact 18 (f := .glo "_law_right") rfl)
  obtain ⟨fd__law_take, F__law_take⟩ := c.def_ 19 (d := d__law_take) rfl
  have g__law_take := He.glo_ok X G (c.fact 19 (f := .glo "_law_take") rfl)
  obtain ⟨fd_law, F_law⟩ := c.def_ 20 (d := d_law) rfl
  have g_law := He.glo_ok X G (c.fact 20 (f := .glo "law") rfl)
  have cx' : ((tupB "WAYS" ["swap", "spot", "shift"] K)) = true := cx
  have z : Fc K mg := {
    t_WAYS := tup_ok X G cx'
    x_NoNumber := xc_ok X G (c.fact 21 (f := .exc "NoNumber") rfl) (c.fact 22 (f := .glo "NoNumber") rfl)
    x_NoWay := xc_ok X G (c.fact 23 (f := .exc "NoWay") rfl) (c.fact 24 (f := .glo "NoWay") rfl)
    f_abs := He.free_ok X G (c.fact 25 (f := .free "abs") rfl)
    f_bool := He.free_ok X G (c.fact 26 (f := .free "bool") rfl)
    f_enumerate := He.free_ok X G (c.fact 27 (f := .free "enumerate") rfl)
    f_int := He.free_ok X G (c.fact 28 (f := .free "int") rfl)
    f_isinstance := He.free_ok X G (c.fact 29 (f := .free "isinstance") rfl)
    f_len := He.free_ok X G (c.fact 30 (f := .free "len") rfl)
    f_list := He.free_ok X G (c.fact 31 (f := .free "list") rfl)
    f_max := He.free_ok X G (c.fact 32 (f := .free "max") rfl)
    f_min := He.free_ok X G (c.fact 33 (f := .free "min") rfl)
    f_range := He.free_ok X G (c.fact 34 (f := .free "range") rfl)
    f_str := He.free_ok X G (c.fact 35 (f := .free "str") rfl)
    f_sum := He.free_ok X G (c.fact 36 (f := .free "sum") rfl)
    f_tuple := He.free_ok X G (c.fact 37 (f := .free "tuple") rfl)
    i_MOST_THINGS := He.int_ok X G (c.fact 38 (f := .int "MOST_THINGS" 12) rfl)
  }
  have e := hfa.symm.trans g_law
  cases e
  have b := FunD.bindsA (ps := ["script"]) F_law fun _ _ _ _ _ _ us hl => match us, hl with | [_], _ => rfl
  refine ⟨fd_law, fun s v => b s [v] rfl, fun base _ _ => ?_⟩
  have c__law_draws := ok__law_draws (P := P) (w := w) (base := base) F__law_draws g__law_draws z 
  have c__law_whole := ok__law_whole (P := P) (w := w) (base := base) F__law_whole g__law_whole z 
  have c__law_fill := ok__law_fill (P := P) (w := w) (base := base) F__law_fill g__law_fill z 
  have c__law_shifts := ok__law_shifts (P := P) (w := w) (base := base) F__law_shifts g__law_shifts z c__law_fill
  have c__law_chosen := ok__law_chosen (P := P) (w := w) (base := base) F__law_chosen g__law_chosen z 
  have c__law_spots := ok__law_spots (P := P) (w := w) (base := base) F__law_spots g__law_spots z c__law_chosen
  have c__law_swaps := ok__law_swaps (P := P) (w := w) (base := base) F__law_swaps g__law_swaps z 
  have c__law_within := ok__law_within (P := P) (w := w) (base := base) F__law_within g__law_within z c__law_shifts c__law_spots c__law_swaps
  have c_is_whole := ok_is_whole (P := P) (w := w) (base := base) F_is_whole g_is_whole z 
  have c_need_reach := ok_need_reach (P := P) (w := w) (base := base) F_need_reach g_need_reach z c_is_whole
  have c_need_things := ok_need_things (P := P) (w := w) (base := base) F_need_things g_need_things z c_is_whole
  have c_need_way := ok_need_way (P := P) (w := w) (base := base) F_need_way g_need_way z 
  have c_by_spot := ok_by_spot (P := P) (w := w) (base := base) F_by_spot g_by_spot z 
  have c_by_swap := ok_by_swap (P := P) (w := w) (base := base) F_by_swap g_by_swap z 
  have c_shifted_within := ok_shifted_within (P := P) (w := w) (base := base) F_shifted_within g_shifted_within z 
  have c_within_by := ok_within_by (P := P) (w := w) (base := base) F_within_by g_within_by z c_by_spot c_by_swap c_shifted_within
  have c_count_at := ok_count_at (P := P) (w := w) (base := base) F_count_at g_count_at z c_need_reach c_need_things c_need_way c_within_by
  have c_count_within := ok_count_within (P := P) (w := w) (base := base) F_count_within g_count_within z c_need_reach c_need_things c_need_way c_within_by
  have c__law_right := ok__law_right (P := P) (w := w) (base := base) F__law_right g__law_right z c__law_whole c__law_within c_count_at c_count_within
  have c__law_take := ok__law_take (P := P) (w := w) (base := base) F__law_take g__law_take z 
  exact ok_law F_law z c__law_draws c__law_right c__law_take
end K15
set_option maxRecDepth 100000
set_option maxHeartbeats 0
namespace K15
open PySem VL VP TM PySem.W.Datum PySem.SeqAt
open PySem.W (Datum Tup T3)
open L2 (atI ixN)
def m__law_draws (script : (List Int)) (many : Int) : R ((List Int)) :=
  R.bind (foldM (fun (s39 : ((List Int) × Int)) (x40 : (Int × Int)) =>
  R.bind (if (decide (((10 : Int) ^ ((18 : Int)).toNat) ≤ (absI x40.2))) = true then
  (R.bind (whileM (fun (s53 : ((List Int) × Int)) =>
  .ok (((decide ((0 : Int) < s53.2)) && (decide ((s53.1.length : Int) < many))))) (fun (s53 : ((List Int) × Int)) =>
  ob (appL s53.1 ((s53.2 % (10007 : Int)))) fun v54 =>
  .ok ((v54, (s53.2 / (10007 : Int))))) 1000000 ((s39.1, (absI x40.2)))) fun (s55 : ((List Int) × Int)) =>
  .ok ((s55.1, s55.2)))
  else
  (ob (mulI (((((((absI x40.2) % (2147483647 : Int)) + x40.1) + (1 : Int)) * (48271 : Int)) % (2147483647 : Int))) (((((((absI x40.2) % (2147483647 : Int)) + x40.1) + (1 : Int)) * (48271 : Int)) % (2147483647 : Int)))) fun v56 =>
  ob (appL s39.1 ((((v56 % (2147483629 : Int)) / (8 : Int)) % (10007 : Int)))) fun v57 =>
  ob (mulI ((((((v56 % (2147483629 : Int)) * (40692 : Int)) + ((2 : Int) * x40.1)) + (1 : Int)) % (2147483563 : Int))) ((((((v56 % (2147483629 : Int)) * (40692 : Int)) + ((2 : Int) * x40.1)) + (1 : Int)) % (2147483563 : Int)))) fun v58 =>
  ob (appL v57 ((((v58 % (2147483647 : Int)) / (8 : Int)) % (10007 : Int)))) fun v59 =>
  .ok ((v59, (absI x40.2))))) fun (s50 : ((List Int) × Int)) =>
  .ok ((s50.1, (((s39.2 * (31 : Int)) + (absI x40.2)) % (2147483629 : Int))))) ((enumT 0 ((cutD script none (some (63 : Int)))))) ((([] : (List Int)), (7 : Int)))) fun (s60 : ((List Int) × Int)) =>
  R.bind (ob (rg1 ((many - (s60.1.length : Int)))) fun xs61 =>
  foldM (fun (s68 : (List Int)) (x69 : Int) =>
  ob (mulI ((((s60.2 + ((7919 : Int) * x69)) + (13 : Int)) % (2147483629 : Int))) ((((s60.2 + ((7919 : Int) * x69)) + (13 : Int)) % (2147483629 : Int)))) fun v70 =>
  ob (mulI (((((v70 % (2147483647 : Int)) * (69621 : Int)) + x69) % (2147483563 : Int))) (((((v70 % (2147483647 : Int)) * (69621 : Int)) + x69) % (2147483563 : Int)))) fun v71 =>
  ob (appL s68 ((((v71 % (2147483629 : Int)) / (8 : Int)) % (10007 : Int)))) fun v72 =>
  .ok v72) xs61 s60.1) fun (s73 : (List Int)) =>
  .ok s73
theorem sim__law_draws (script : (List Int)) (many : Int) : FnS h__law_draws [.sc script, .fr (toD (many : Int))] (m__law_draws script many) (fun a : (List Int) => .o (toD (a : (List Int)))) (fun a : (List Int) => []) :=
  fn_mk (n := 6) (rv := fun a : (List Int) => .o (toD (a : (List Int)))) (ss := [.sc script, (.d (toD (many : Int)))]) (Γe := fun a : (List Int) => [none, none, none, none, none, none, none, none]) rfl (.cons rfl (.cons rfl All2.nil)) rfl
  (j_re (Γ' := [some (.sc script), some (.d (toD (many : Int))), none, none, none, none, none, none]) rfl (j_own (j_lst (j_dnil (j_lst2 (toD (([] : (List Int)) : (List Int))) rfl rfl (j_ownb (j_setO (j_re (Γ' := [some (.sc script), some (.d (toD (many : Int))), some (.o (toD (([] : (List Int)) : (List Int)))), none, none, none, none, none]) rfl (j_asg (j_c (j_fzb (fzb_of fz_b) (j_setD (j_re (Γ' := [some (.sc script), some (.d (toD (many : Int))), some (.o (toD (([] : (List Int)) : (List Int)))), some (.d (toD ((7 : Int) : Int))), none, none, none, none]) rfl (j_seq (Γs := fun (s39 : ((List Int) × Int)) => [some (.sc script), some (.d (toD (many : Int))), some (.o (toD (s39.1 : (List Int)))), some (.d (toD (s39.2 : Int))), none, none, none, none]) (j_sFor (j_iEnum (j_scSl (j_var rfl (j_ono (j_osome (j_c (j_int rd_b (j_scSl2  rfl (j_it fz_w (selE_map toD _) (j_for (l := [1, 1, 1, 1, 0, 0, 0, 0]) (D := toD) (Γs := fun (s39 : ((List Int) × Int)) => [some (.sc script), some (.d (toD (many : Int))), some (.o (toD (s39.1 : (List Int)))), some (.d (toD (s39.2 : Int))), none, none, none, none]) ((([] : (List Int)), (7 : Int))) rfl (fun _ => rfl) fun s39 x40 => (j_gT2 (j_re (Γ' := [some (.sc script), some (.d (toD (many : Int))), some (.o (toD (s39.1 : (List Int)))), some (.d (toD (s39.2 : Int))), some (.d (toD (x40.1 : Int))), some (.d (toD (x40.2 : Int))), none, none]) rfl (j_asg (j_cb (j_acons (j_var rfl (j_anil (j_cbop (ra_cons (rd_d rfl) ra_nil) x_abs (j_fzb (fzb_of fz_b) (j_setD (j_re (Γ' := [some (.sc script), some (.d (toD (many : Int))), some (.o (toD (s39.1 : (List Int)))), some (.d (toD (s39.2 : Int))), some (.d (toD (x40.1 : Int))), some (.d (toD (x40.2 : Int))), some (.d (toD ((absI x40.2) : Int))), none]) rfl (j_asg (j_bin (j_bin (j_bin (j_var rfl (j_c (j_op (rd_d rfl) rd_b (x_mul (cmul_r (by decide))) (j_var rfl (j_op rd_b (rd_d rfl) x_add (j_c (j_op rd_b rd_b (x_mod (by decide)) (j_fzb (fzb_of fz_b) (j_setD (j_last (j_re (Γ' := [some (.sc script), some (.d (toD (many : Int))), some (.o (toD (s39.1 : (List Int)))), some (.d (toD ((((s39.2 * (31 : Int)) + (absI x40.2)) % (2147483629 : Int)) : Int))), some (.d (toD (x40.1 : Int))), some (.d (toD (x40.2 : Int))), some (.d (toD ((absI x40.2) : Int))), none]) rfl (j_seq (Γs := fun (s50 : ((List Int) × Int)) => [some (.sc script), some (.d (toD (many : Int))), some (.o (toD (s50.1 : (List Int)))), some (.d (toD ((((s39.2 * (31 : Int)) + (absI x40.2)) % (2147483629 : Int)) : Int))), some (.d (toD (x40.1 : Int))), some (.d (toD (x40.2 : Int))), some (.d (toD (s50.2 : Int))), none]) (j_if1 (j_test (j_bin (j_var rfl (j_bin (j_c (j_c (j_op rd_b rd_b (x_pow (by decide)) (j_op (rd_d rfl) rd_b x_ge (j_bool rd_b (j_ite (j_last (j_re (Γ' := [some (.sc script), some (.d (toD (many : Int))), some (.o (toD (s39.1 : (List Int)))), some (.d (toD ((((s39.2 * (31 : Int)) + (absI x40.2)) % (2147483629 : Int)) : Int))), some (.d (toD (x40.1 : Int))), some (.d (toD (x40.2 : Int))), some (.d (toD ((absI x40.2) : Int))), none]) rfl (j_seq (Γs := fun (s53 : ((List Int) × Int)) => [some (.sc script), some (.d (toD (many : Int))), some (.o (toD (s53.1 : (List Int)))), some (.d (toD ((((s39.2 * (31 : Int)) + (absI x40.2)) % (2147483629 : Int)) : Int))), some (.d (toD (x40.1 : Int))), some (.d (toD (x40.2 : Int))), some (.d (toD (s53.2 : Int))), none]) (j_while (l := [1, 1, 1, 1, 1, 1, 1, 0]) (Γs := fun (s53 : ((List Int) × Int)) => [some (.sc script), some (.d (toD (many : Int))), some (.o (toD (s53.1 : (List Int)))), some (.d (toD ((((s39.2 * (31 : Int)) + (absI x40.2)) % (2147483629 : Int)) : Int))), some (.d (toD (x40.1 : Int))), some (.d (toD (x40.2 : Int))), some (.d (toD (s53.2 : Int))), none]) ((s39.1, (absI x40.2))) rfl (fun _ => rfl) (fun s53 => (j_and (j_test (j_bin (j_var rfl (j_c (j_op (rd_d rfl) rd_b x_gt (j_bool rd_b (j_kb (l := [1, 1, 1, 1, 1, 1, 1, 0]) rfl rfl))))))) (j_test (j_bin (j_cb (j_acons (j_var rfl (j_anil (j_cbop (ra_cons (rd_o rfl) ra_nil) (x_len (τ := Int)) (j_var rfl (j_op rd_b (rd_d rfl) x_lt (j_bool rd_b (j_kb (l := [1, 1, 1, 1, 1, 1, 1, 0]) rfl rfl))))))))))) (j_kb (l := [1, 1, 1, 1, 1, 1, 1, 0]) rfl rfl))) fun s53 => (j_re (Γ' := [some (.sc script), some (.d (toD (many : Int))), some (.o (toD (s53.1 : (List Int)))), some (.d (toD ((((s39.2 * (31 : Int)) + (absI x40.2)) % (2147483629 : Int)) : Int))), some (.d (toD (x40.1 : Int))), some (.d (toD (x40.2 : Int))), some (.d (toD (s53.2 : Int))), none]) rfl (j_expr (j_mth (j_chk rfl rfl (j_dcons (j_bin (j_var rfl (j_c (j_op (rd_d rfl) rd_b (x_mod (by decide)) (j_fz fz_b (j_dnil (j_mthopR (z := fun _ => .fr .none) (es := fun a => a.map toD) (y := fun a => toD a) rfl (x_app (τ := Int)) (fun _ => rfl) fun v54 => (j_last (j_re (Γ' := [some (.sc script), some (.d (toD (many : Int))), some (.o (toD (v54 : (List Int)))), some (.d (toD ((((s39.2 * (31 : Int)) + (absI x40.2)) % (2147483629 : Int)) : Int))), some (.d (toD (x40.1 : Int))), some (.d (toD (x40.2 : Int))), some (.d (toD (s53.2 : Int))), none]) rfl (j_asg (j_bin (j_var rfl (j_c (j_op (rd_d rfl) rd_b (x_fdiv (cfdiv_r (by decide))) (j_fzb (fzb_of fz_b) (j_setD (j_nil (l := [1, 1, 1, 1, 1, 1, 1, 0]) rfl rfl))))))))))))))))))))))) fun s55 => (j_nil (l := [1, 1, 1, 1, 1, 1, 1, 0]) rfl rfl)))) (j_re (Γ' := [some (.sc script), some (.d (toD (many : Int))), some (.o (toD (s39.1 : (List Int)))), some (.d (toD ((((s39.2 * (31 : Int)) + (absI x40.2)) % (2147483629 : Int)) : Int))), some (.d (toD (x40.1 : Int))), some (.d (toD (x40.2 : Int))), some (.d (toD ((absI x40.2) : Int))), none]) rfl (j_asg (j_bin (j_bin (j_bin (j_bin (j_bin (j_var rfl (j_c (j_op (rd_d rfl) rd_b (x_mod (by decide)) (j_var rfl (j_op rd_b (rd_d rfl) x_add (j_c (j_op rd_b rd_b x_add (j_c (j_op rd_b rd_b (x_mul (cmul_r (by decide))) (j_c (j_op rd_b rd_b (x_mod (by decide)) (j_fzb (fzb_of fz_b) (j_setD (j_re (Γ' := [some (.sc script), some (.d (toD (many : Int))), some (.o (toD (s39.1 : (List Int)))), some (.d (toD ((((s39.2 * (31 : Int)) + (absI x40.2)) % (2147483629 : Int)) : Int))), some (.d (toD (x40.1 : Int))), some (.d (toD (x40.2 : Int))), some (.d (toD ((absI x40.2) : Int))), some (.d (toD (((((((absI x40.2) % (2147483647 : Int)) + x40.1) + (1 : Int)) * (48271 : Int)) % (2147483647 : Int)) : Int)))]) rfl (j_asg (j_bin (j_bin (j_var rfl (j_var rfl (j_opR (rd_d rfl) (rd_d rfl) x_mulR fun v56 => (j_c (j_op rd_b rd_b (x_mod (by decide)) (j_fzb (fzb_of fz_b) (j_setD (j_re (Γ' := [some (.sc script), some (.d (toD (many : Int))), some (.o (toD (s39.1 : (List Int)))), some (.d (toD ((((s39.2 * (31 : Int)) + (absI x40.2)) % (2147483629 : Int)) : Int))), some (.d (toD (x40.1 : Int))), some (.d (toD (x40.2 : Int))), some (.d (toD ((absI x40.2) : Int))), some (.d (toD ((v56 % (2147483629 : Int)) : Int)))]) rfl (j_expr (j_mth (j_chk rfl rfl (j_dcons (j_bin (j_bin (j_var rfl (j_c (j_op (rd_d rfl) rd_b (x_fdiv (cfdiv_r (by decide))) (j_c (j_op rd_b rd_b (x_mod (by decide)) (j_fz fz_b (j_dnil (j_mthopR (z := fun _ => .fr .none) (es := fun a => a.map toD) (y := fun a => toD a) rfl (x_app (τ := Int)) (fun _ => rfl) fun v57 => (j_re (Γ' := [some (.sc script), some (.d (toD (many : Int))), some (.o (toD (v57 : (List Int)))), some (.d (toD ((((s39.2 * (31 : Int)) + (absI x40.2)) % (2147483629 : Int)) : Int))), some (.d (toD (x40.1 : Int))), some (.d (toD (x40.2 : Int))), some (.d (toD ((absI x40.2) : Int))), some (.d (toD ((v56 % (2147483629 : Int)) : Int)))]) rfl (j_asg (j_bin (j_bin (j_bin (j_bin (j_var rfl (j_c (j_op (rd_d rfl) rd_b (x_mul (cmul_r (by decide))) (j_bin (j_c (j_var rfl (j_op rd_b (rd_d rfl) (x_mul (cmul_l (by decide))) (j_op rd_b rd_b x_add (j_c (j_op rd_b rd_b x_add (j_c (j_op rd_b rd_b (x_mod (by decide)) (j_fzb (fzb_of fz_b) (j_setD (j_re (Γ' := [some (.sc script), some (.d (toD (many : Int))), some (.o (toD (v57 : (List Int)))), some (.d (toD ((((s39.2 * (31 : Int)) + (absI x40.2)) % (2147483629 : Int)) : Int))), some (.d (toD (x40.1 : Int))), some (.d (toD (x40.2 : Int))), some (.d (toD ((absI x40.2) : Int))), some (.d (toD ((((((v56 % (2147483629 : Int)) * (40692 : Int)) + ((2 : Int) * x40.1)) + (1 : Int)) % (2147483563 : Int)) : Int)))]) rfl (j_asg (j_bin (j_bin (j_var rfl (j_var rfl (j_opR (rd_d rfl) (rd_d rfl) x_mulR fun v58 => (j_c (j_op rd_b rd_b (x_mod (by decide)) (j_fzb (fzb_of fz_b) (j_setD (j_last (j_re (Γ' := [some (.sc script), some (.d (toD (many : Int))), some (.o (toD (v57 : (List Int)))), some (.d (toD ((((s39.2 * (31 : Int)) + (absI x40.2)) % (2147483629 : Int)) : Int))), some (.d (toD (x40.1 : Int))), some (.d (toD (x40.2 : Int))), some (.d (toD ((absI x40.2) : Int))), some (.d (toD ((v58 % (2147483647 : Int)) : Int)))]) rfl (j_expr (j_mth (j_chk rfl rfl (j_dcons (j_bin (j_bin (j_var rfl (j_c (j_op (rd_d rfl) rd_b (x_fdiv (cfdiv_r (by decide))) (j_c (j_op rd_b rd_b (x_mod (by decide)) (j_fz fz_b (j_dnil (j_mthopR (z := fun _ => .fr .none) (es := fun a => a.map toD) (y := fun a => toD a) rfl (x_app (τ := Int)) (fun _ => rfl) fun v59 => (j_nil (l := [1, 1, 1, 1, 1, 1, 1, 0]) rfl rfl))))))))))))))))))))))))))))))))))))))))))))))))))))))))))))))))))))))))))))))))))))))))))))))))))))))))) fun s50 => (j_nil (l := [1, 1, 1, 1, 0, 0, 0, 0]) rfl rfl))))))))))))))))))))))))))))))))))))))) fun s60 => (j_re (Γ' := [some (.sc script), some (.d (toD (many : Int))), some (.o (toD (s60.1 : (List Int)))), some (.d (toD (s60.2 : Int))), none, none, none, none]) rfl (j_seq (Γs := fun (s68 : (List Int)) => [some (.sc script), some (.d (toD (many : Int))), some (.o (toD (s68 : (List Int)))), some (.d (toD (s60.2 : Int))), none, none, none, none]) (j_sFor (j_iRg1 (j_bin (j_var rfl (j_cb (j_acons (j_var rfl (j_anil (j_cbop (ra_cons (rd_o rfl) ra_nil) (x_len (τ := Int)) (j_op (rd_d rfl) rd_b x_sub (j_rg1 rd_b fun xs61 => (j_for (l := [1, 1, 1, 1, 0, 0, 0, 0]) (D := toD) (Γs := fun (s68 : (List Int)) => [some (.sc script), some (.d (toD (many : Int))), some (.o (toD (s68 : (List Int)))), some (.d (toD (s60.2 : Int))), none, none, none, none]) s60.1 rfl (fun _ => rfl) fun s68 x69 => (j_gN (j_re (Γ' := [some (.sc script), some (.d (toD (many : Int))), some (.o (toD (s68 : (List Int)))), some (.d (toD (s60.2 : Int))), some (.d (toD (x69 : Int))), none, none, none]) rfl (j_asg (j_bin (j_bin (j_bin (j_var rfl (j_bin (j_c (j_var rfl (j_op rd_b (rd_d rfl) (x_mul (cmul_l (by decide))) (j_op (rd_d rfl) rd_b x_add (j_c (j_op rd_b rd_b x_add (j_c (j_op rd_b rd_b (x_mod (by decide)) (j_fzb (fzb_of fz_b) (j_setD (j_re (Γ' := [some (.sc script), some (.d (toD (many : Int))), some (.o (toD (s68 : (List Int)))), some (.d (toD (s60.2 : Int))), some (.d (toD (x69 : Int))), none, none, some (.d (toD ((((s60.2 + ((7919 : Int) * x69)) + (13 : Int)) % (2147483629 : Int)) : Int)))]) rfl (j_asg (j_bin (j_bin (j_var rfl (j_var rfl (j_opR (rd_d rfl) (rd_d rfl) x_mulR fun v70 => (j_c (j_op rd_b rd_b (x_mod (by decide)) (j_fzb (fzb_of fz_b) (j_setD (j_re (Γ' := [some (.sc script), some (.d (toD (many : Int))), some (.o (toD (s68 : (List Int)))), some (.d (toD (s60.2 : Int))), some (.d (toD (x69 : Int))), none, none, some (.d (toD ((v70 % (2147483647 : Int)) : Int)))]) rfl (j_asg (j_bin (j_bin (j_bin (j_var rfl (j_c (j_op (rd_d rfl) rd_b (x_mul (cmul_r (by decide))) (j_var rfl (j_op rd_b (rd_d rfl) x_add (j_c (j_op rd_b rd_b (x_mod (by decide)) (j_fzb (fzb_of fz_b) (j_setD (j_last (j_re (Γ' := [some (.sc script), some (.d (toD (many : Int))), some (.o (toD (s68 : (List Int)))), some (.d (toD (s60.2 : Int))), some (.d (toD (x69 : Int))), none, none, some (.d (toD (((((v70 % (2147483647 : Int)) * (69621 : Int)) + x69) % (2147483563 : Int)) : Int)))]) rfl (j_expr (j_mth (j_chk rfl rfl (j_dcons (j_bin (j_bin (j_bin (j_bin (j_var rfl (j_var rfl (j_opR (rd_d rfl) (rd_d rfl) x_mulR fun v71 => (j_c (j_op rd_b rd_b (x_mod (by decide)) (j_c (j_op rd_b rd_b (x_fdiv (cfdiv_r (by decide))) (j_c (j_op rd_b rd_b (x_mod (by decide)) (j_fz fz_b (j_dnil (j_mthopR (z := fun _ => .fr .none) (es := fun a => a.map toD) (y := fun a => toD a) rfl (x_app (τ := Int)) (fun _ => rfl) fun v72 => (j_nil (l := [1, 1, 1, 1, 0, 0, 0, 0]) rfl rfl)))))))))))))))))))))))))))))))))))))))))))))))))))))))))))))))))))))))))))))) fun s73 => (j_last (j_re (Γ' := [some (.sc script), some (.d (toD (many : Int))), some (.o (toD (s73 : (List Int)))), some (.d (toD (s60.2 : Int))), none, none, none, none]) rfl (j_ret (j_var rfl (j_rets (l := [0, 0, 0, 0, 0, 0, 0, 0]) rfl (fun _ => sl_id) rfl rfl))))))))))))))))))))) (fun a p hp => nomatch hp)
def m__law_whole (found : Int) (due : Int) : R Bool :=
  .ok ((true && ((!false) && (decide (found = due)))))
theorem sim__law_whole (found : Int) (due : Int) : FnS h__law_whole [.fr (toD (found : Int)), .fr (toD (due : Int))] (m__law_whole found due) (fun a : Bool => .d (toD (a : Bool))) (fun a : Bool => []) :=
  fn_mk (n := 0) (rv := fun a : Bool => .d (toD (a : Bool))) (ss := [(.d (toD (found : Int))), (.d (toD (due : Int)))]) (Γe := fun a : Bool => [none, none]) rfl (.cons rfl (.cons rfl All2.nil)) rfl
  (j_last (j_ret (j_andVP (j_isi (j_var rfl (j_isi2 (b := true) (rd_d rfl) rfl (j_ko (l := [1, 1]) rd_b rfl rfl)))) (j_andVP (j_notV (j_isi (j_var rfl (j_isi2 (b := false) (rd_d rfl) rfl (j_bool rd_b (j_ko (l := [1, 1]) rd_b rfl rfl)))))) (j_bin (j_var rfl (j_var rfl (j_op (rd_d rfl) (rd_d rfl) (x_eq (τ := Int)) (j_kob (l := [1, 1]) rfl rfl))))) (j_kob (l := [1, 1]) rfl rfl)) (j_retb (l := [0, 0]) sl_d rfl rfl)))) (fun a p hp => nomatch hp)
def m__law_fill : Nat → Int → Int → Int → (Tup Int) → (List ((Tup Int) × Int)) → R ((Int × (List ((Tup Int) × Int))))
  | 0, _, _, _, _, _ => .no
  | rj + 1, n, r, place, left, known =>
    if (decide (place = n)) = true then
      (.ok (((1 : Int), known)))
      else
      (R.bind (if (!(lookT known left).isSome) = true then
      (R.bind (foldM (fun (s31 : ((List ((Tup Int) × Int)) × Int)) (x32 : (Int × Int)) =>
      R.bind (if (decide ((absI ((x32.2 - place))) ≤ r)) = true then
      (ob (addU ((Tup.mk (cutD left.items none (some x32.1)))) ((Tup.mk (cutD left.items (some (x32.1 + (1 : Int))) none)))) fun v36 =>
      R.bind (m__law_fill rj n r ((place + (1 : Int))) v36 s31.1) fun v37 =>
      .ok ((v37.2, (s31.2 + v37.1))))
      else
      (.ok ((s31.1, s31.2)))) fun (s35 : ((List ((Tup Int) × Int)) × Int)) =>
      .ok ((s35.1, s35.2))) ((enumT 0 left.items)) ((known, (0 : Int)))) fun (s38 : ((List ((Tup Int) × Int)) × Int)) =>
      ob (putG s38.1 left s38.2) fun v39 =>
      .ok v39)
      else
      (.ok known)) fun (s20 : (List ((Tup Int) × Int))) =>
      ob (lookT s20 left) fun v40 =>
      .ok ((v40, s20)))
theorem sim__law_fill : ∀ (rj : Nat) (n : Int) (r : Int) (place : Int) (left : (Tup Int)) (known : (List ((Tup Int) × Int))), FnS (r__law_fill rj) [.fr (toD (n : Int)), .fr (toD (r : Int)), .fr (toD (place : Int)), .fr (toD (left : (Tup Int))), .rs 2 (dD (known : (List ((Tup Int) × Int))))] (m__law_fill rj n r place left known) (fun a : (Int × (List ((Tup Int) × Int))) => .d (toD (a.1 : Int))) (fun a : (Int × (List ((Tup Int) × Int))) => [(4, (.rs 2 (dD (a.2 : (List ((Tup Int) × Int))))))])
  | 0, _, _, _, _, _ => trivial
  | rj + 1, n, r, place, left, known =>
  fn_mk (n := 4) (rv := fun a : (Int × (List ((Tup Int) × Int))) => .d (toD (a.1 : Int))) (ss := [(.d (toD (n : Int))), (.d (toD (r : Int))), (.d (toD (place : Int))), (.d (toD (left : (Tup Int)))), (.rs 2 (dD (known : (List ((Tup Int) × Int)))))]) (Γe := fun a : (Int × (List ((Tup Int) × Int))) => [none, none, none, none, some (.rs 2 (dD (a.2 : (List ((Tup Int) × Int))))), none, none, none, none]) rfl (.cons rfl (.cons rfl (.cons rfl (.cons rfl (.cons rfl All2.nil))))) rfl
      (j_re (Γ' := [some (.d (toD (n : Int))), some (.d (toD (r : Int))), some (.d (toD (place : Int))), some (.d (toD (left : (Tup Int)))), some (.rs 2 (dD (known : (List ((Tup Int) × Int))))), none, none, none, none]) rfl (j_if (j_test (j_bin (j_var rfl (j_var rfl (j_op (rd_d rfl) (rd_d rfl) (x_eq (τ := Int)) (j_bool rd_b (j_ite (j_re (Γ' := [some (.d (toD (n : Int))), some (.d (toD (r : Int))), some (.d (toD (place : Int))), some (.d (toD (left : (Tup Int)))), some (.rs 2 (dD (known : (List ((Tup Int) × Int))))), none, none, none, none]) rfl (j_ret (j_c (j_retb (l := [0, 0, 0, 0, 1, 0, 0, 0, 0]) sl_d rfl rfl)))) (j_seqNil (j_re (Γ' := [some (.d (toD (n : Int))), some (.d (toD (r : Int))), some (.d (toD (place : Int))), some (.d (toD (left : (Tup Int)))), some (.rs 2 (dD (known : (List ((Tup Int) × Int))))), none, none, none, none]) rfl (j_seq (Γs := fun (s20 : (List ((Tup Int) × Int))) => [some (.d (toD (n : Int))), some (.d (toD (r : Int))), some (.d (toD (place : Int))), some (.d (toD (left : (Tup Int)))), some (.rs 2 (dD (s20 : (List ((Tup Int) × Int))))), none, none, none, none]) (j_if1 (j_test (j_tin (j_var rfl (j_tninop (κ := (Tup Int)) (υ := Int) rfl (rd_d rfl) (j_bool rd_b (j_ite (j_re (Γ' := [some (.d (toD (n : Int))), some (.d (toD (r : Int))), some (.d (toD (place : Int))), some (.d (toD (left : (Tup Int)))), some (.rs 2 (dD (known : (List ((Tup Int) × Int))))), none, none, none, none]) rfl (j_asg (j_c (j_fzb (fzb_of fz_b) (j_setD (j_re (Γ' := [some (.d (toD (n : Int))), some (.d (toD (r : Int))), some (.d (toD (place : Int))), some (.d (toD (left : (Tup Int)))), some (.rs 2 (dD (known : (List ((Tup Int) × Int))))), some (.d (toD ((0 : Int) : Int))), none, none, none]) rfl (j_seq (Γs := fun (s31 : ((List ((Tup Int) × Int)) × Int)) => [some (.d (toD (n : Int))), some (.d (toD (r : Int))), some (.d (toD (place : Int))), some (.d (toD (left : (Tup Int)))), some (.rs 2 (dD (s31.1 : (List ((Tup Int) × Int))))), some (.d (toD (s31.2 : Int))), none, none, none]) (j_sFor (j_iEnumT (j_var rfl (j_it (fz_d rfl) (selET_map _) (j_for (l := [1, 1, 1, 1, 1, 1, 0, 0, 0]) (D := toD) (Γs := fun (s31 : ((List ((Tup Int) × Int)) × Int)) => [some (.d (toD (n : Int))), some (.d (toD (r : Int))), some (.d (toD (place : Int))), some (.d (toD (left : (Tup Int)))), some (.rs 2 (dD (s31.1 : (List ((Tup Int) × Int))))), some (.d (toD (s31.2 : Int))), none, none, none]) ((known, (0 : Int))) rfl (fun _ => rfl) fun s31 x32 => (j_gT2 (j_last (j_re (Γ' := [some (.d (toD (n : Int))), some (.d (toD (r : Int))), some (.d (toD (place : Int))), some (.d (toD (left : (Tup Int)))), some (.rs 2 (dD (s31.1 : (List ((Tup Int) × Int))))), some (.d (toD (s31.2 : Int))), some (.d (toD (x32.1 : Int))), some (.d (toD (x32.2 : Int))), none]) rfl (j_seq (Γs := fun (s35 : ((List ((Tup Int) × Int)) × Int)) => [some (.d (toD (n : Int))), some (.d (toD (r : Int))), some (.d (toD (place : Int))), some (.d (toD (left : (Tup Int)))), some (.rs 2 (dD (s35.1 : (List ((Tup Int) × Int))))), some (.d (toD (s35.2 : Int))), some (.d (toD (x32.1 : Int))), some (.d (toD (x32.2 : Int))), none]) (j_if1 (j_test (j_bin (j_cb (j_acons (j_bin (j_var rfl (j_var rfl (j_op (rd_d rfl) (rd_d rfl) x_sub (j_anil (j_cbop (ra_cons rd_b ra_nil) x_abs (j_var rfl (j_op rd_b (rd_d rfl) x_le (j_bool rd_b (j_ite (j_re (Γ' := [some (.d (toD (n : Int))), some (.d (toD (r : Int))), some (.d (toD (place : Int))), some (.d (toD (left : (Tup Int)))), some (.rs 2 (dD (s31.1 : (List ((Tup Int) × Int))))), some (.d (toD (s31.2 : Int))), some (.d (toD (x32.1 : Int))), some (.d (toD (x32.2 : Int))), none]) rfl (j_asg (j_bin (j_slT (j_var rfl (j_ono (j_osome (j_var rfl (j_int (rd_d rfl) (j_slTop (rd_d rfl) (x_slU _ _ _) (j_slT (j_var rfl (j_osome (j_bin (j_var rfl (j_c (j_op (rd_d rfl) rd_b x_add (j_int rd_b (j_ono (j_slTop (rd_d rfl) (x_slU _ _ _) (j_opR rd_b rd_b (x_addU (τ := Int)) fun v36 => (j_fzb (fzb_of fz_b) (j_setD (j_last (j_re (Γ' := [some (.d (toD (n : Int))), some (.d (toD (r : Int))), some (.d (toD (place : Int))), some (.d (toD (left : (Tup Int)))), some (.rs 2 (dD (s31.1 : (List ((Tup Int) × Int))))), some (.d (toD (s31.2 : Int))), some (.d (toD (x32.1 : Int))), some (.d (toD (x32.2 : Int))), some (.d (toD (v36 : (Tup Int))))]) rfl (j_asg (j_bin (j_var rfl (j_call (j_aF (j_var rfl (j_fzb (fzb_of (fz_d rfl)) (j_aF (j_var rfl (j_fzb (fzb_of (fz_d rfl)) (j_aF (j_bin (j_var rfl (j_c (j_op (rd_d rfl) rd_b x_add (j_fzb (fzb_of fz_b) (j_aF (j_var rfl (j_fzb (fzb_of (fz_d rfl)) (j_aM rfl (j_anil (j_callF rfl (ba_b (ba_b (ba_b (ba_b (ba_rs rfl ba_nil))))) (sim__law_fill rj n r ((place + (1 : Int))) v36 s31.1) (fun _ => rfl) (fun _ => rfl) fun v37 => (j_op (rd_d rfl) rd_b x_add (j_fzb (fzb_of fz_b) (j_setD (j_nil (l := [1, 1, 1, 1, 1, 1, 1, 1, 0]) rfl rfl))))))))))))))))))))))))))))))))))))))))))))))))))) (j_nil (l := [1, 1, 1, 1, 1, 1, 1, 1, 0]) rfl rfl)))))))))))))))) fun s35 => (j_nil (l := [1, 1, 1, 1, 1, 1, 0, 0, 0]) rfl rfl)))))))))) fun s38 => (j_last (j_re (Γ' := [some (.d (toD (n : Int))), some (.d (toD (r : Int))), some (.d (toD (place : Int))), some (.d (toD (left : (Tup Int)))), some (.rs 2 (dD (s38.1 : (List ((Tup Int) × Int))))), some (.d (toD (s38.2 : Int))), none, none, none]) rfl (j_tput (j_var rfl (j_fz (fz_d rfl) (j_ist rfl (j_var rfl (j_tputop (κ := (Tup Int)) (υ := Int) rfl (rd_d rfl) fun v39 => (j_nil (l := [1, 1, 1, 1, 1, 0, 0, 0, 0]) rfl rfl)))))))))))))))) (j_nil (l := [1, 1, 1, 1, 1, 0, 0, 0, 0]) rfl rfl)))))))) fun s20 => (j_last (j_re (Γ' := [some (.d (toD (n : Int))), some (.d (toD (r : Int))), some (.d (toD (place : Int))), some (.d (toD (left : (Tup Int)))), some (.rs 2 (dD (s20 : (List ((Tup Int) × Int))))), none, none, none, none]) rfl (j_ret (j_tget rfl (j_var rfl (j_tgop (κ := (Tup Int)) (υ := Int) rfl (rd_d rfl) fun v40 => (j_retb (l := [0, 0, 0, 0, 1, 0, 0, 0, 0]) sl_d rfl rfl))))))))))))))))))) (fun a p hp => by
    simp only [List.mem_cons, List.not_mem_nil, or_false] at hp
    subst hp; rfl)
def m__law_shifts (n : Int) (r : Int) : R Int :=
  ob (lrg1 n) fun v1 =>
  R.bind (m__law_fill 30 n ((min2 r n)) ((0 : Int)) ((Tup.mk v1)) (([] : (List ((Tup Int) × Int))))) fun v2 =>
  .ok v2.1
theorem sim__law_shifts (n : Int) (r : Int) : FnS h__law_shifts [.fr (toD (n : Int)), .fr (toD (r : Int))] (m__law_shifts n r) (fun a : Int => .d (toD (a : Int))) (fun a : Int => []) :=
  fn_mk (n := 0) (rv := fun a : Int => .d (toD (a : Int))) (ss := [(.d (toD (n : Int))), (.d (toD (r : Int)))]) (Γe := fun a : Int => [none, none]) rfl (.cons rfl (.cons rfl All2.nil)) rfl
  (j_last (j_ret (j_callT (j_aF (j_var rfl (j_fzb (fzb_of (fz_d rfl)) (j_aF (j_cb (j_acons (j_var rfl (j_acons (j_var rfl (j_anil (j_cbop (ra_cons (rd_d rfl) (ra_cons (rd_d rfl) ra_nil)) x_min2 (j_fzb (fzb_of fz_b) (j_aF (j_c (j_fzb (fzb_of fz_b) (j_aF (j_cb (j_acons (j_lr1 (j_var rfl (j_lr1op (rd_d rfl)  fun v1 => (j_anil (j_cbop (ra_cons rd_w ra_nil) (x_tuple (τ := Int)) (j_fzb (fzb_of fz_b) (j_aT (b := .fr .none) (j_tnew (κ := (Tup Int)) (υ := Int) (j_anil (j_callTF rfl rfl (ba_b (ba_b (ba_b (ba_b (ba_b ba_nil))))) (sim__law_fill 30 n ((min2 r n)) ((0 : Int)) ((Tup.mk v1)) (([] : (List ((Tup Int) × Int))))) (fun _ => rfl) (fun _ => rfl) fun v2 => (j_retb (l := [0, 0]) sl_d rfl rfl)))))))))))))))))))))))))))))))) (fun a p hp => nomatch hp)
def m__law_chosen (n : Int) (k : Int) : R Int :=
  R.bind (ob (rg1 k) fun xs1 =>
  foldM (fun (s6 : Int) (x7 : Int) =>
  ob (mulI s6 ((n - x7))) fun v8 =>
  ob (fdivI v8 ((x7 + (1 : Int)))) fun v9 =>
  .ok v9) xs1 ((1 : Int))) fun (s10 : Int) =>
  .ok s10
theorem sim__law_chosen (n : Int) (k : Int) : FnS h__law_chosen [.fr (toD (n : Int)), .fr (toD (k : Int))] (m__law_chosen n k) (fun a : Int => .d (toD (a : Int))) (fun a : Int => []) :=
  fn_mk (n := 2) (rv := fun a : Int => .d (toD (a : Int))) (ss := [(.d (toD (n : Int))), (.d (toD (k : Int)))]) (Γe := fun a : Int => [none, none, none, none]) rfl (.cons rfl (.cons rfl All2.nil)) rfl
  (j_own (j_c (j_ownb (j_setD (j_seq (Γs := fun (s6 : Int) => [some (.d (toD (n : Int))), some (.d (toD (k : Int))), some (.d (toD (s6 : Int))), none]) (j_sFor (j_iRg1 (j_var rfl (j_rg1 (rd_d rfl) fun xs1 => (j_for (l := [1, 1, 1, 0]) (D := toD) (Γs := fun (s6 : Int) => [some (.d (toD (n : Int))), some (.d (toD (k : Int))), some (.d (toD (s6 : Int))), none]) ((1 : Int)) rfl (fun _ => rfl) fun s6 x7 => (j_gN (j_last (j_own (j_bin (j_bin (j_var rfl (j_bin (j_var rfl (j_var rfl (j_op (rd_d rfl) (rd_d rfl) x_sub (j_opR (rd_d rfl) rd_b x_mulR fun v8 => (j_bin (j_var rfl (j_c (j_op (rd_d rfl) rd_b x_add (j_opR rd_b rd_b x_fdivR fun v9 => (j_ownb (j_setD (j_nil (l := [1, 1, 1, 0]) rfl rfl)))))))))))))))))))))))) fun s10 => (j_last (j_ret (j_var rfl (j_rets (l := [0, 0, 0, 0]) rfl (fun _ => sl_id) rfl rfl))))))))) (fun a p hp => nomatch hp)
def m__law_spots (n : Int) : R ((List Int)) :=
  R.bind (ob (rg1 ((n + (1 : Int)))) fun xs1 =>
  foldM (fun (s82 : (List Int)) (x83 : Int) =>
  R.bind (ob (rg1 ((x83 + (1 : Int)))) fun xs84 =>
  foldM (fun (s107 : Int) (x108 : Int) =>
  R.bind (ob (rg1 ((x83 - x108))) fun xs109 =>
  foldM (fun (s112 : Int) (x113 : Int) =>
  ob (mulI s112 ((x113 + (1 : Int)))) fun v114 =>
  .ok v114) xs109 ((1 : Int))) fun (s115 : Int) =>
  ob (atI ([(1 : Int), (-(1 : Int))]) ((x108 % (2 : Int)))) fun v116 =>
  R.bind (m__law_chosen x83 x108) fun v117 =>
  ob (mulI v116 v117) fun v118 =>
  ob (mulI v118 s115) fun v119 =>
  .ok ((s107 + v119))) xs84 ((0 : Int))) fun (s120 : Int) =>
  R.bind (m__law_chosen n x83) fun v121 =>
  ob (mulI v121 s120) fun v122 =>
  ob (appL s82 v122) fun v123 =>
  .ok v123) xs1 (([] : (List Int)))) fun (s124 : (List Int)) =>
  .ok s124
theorem sim__law_spots (n : Int) : FnS h__law_spots [.fr (toD (n : Int))] (m__law_spots n) (fun a : (List Int) => .o (toD (a : (List Int)))) (fun a : (List Int) => []) :=
  fn_mk (n := 6) (rv := fun a : (List Int) => .o (toD (a : (List Int)))) (ss := [(.d (toD (n : Int)))]) (Γe := fun a : (List Int) => [none, none, none, none, none, none, none]) rfl (.cons rfl All2.nil) rfl
  (j_re (Γ' := [some (.d (toD (n : Int))), none, none, none, none, none, none]) rfl (j_own (j_lst (j_dnil (j_lst2 (toD (([] : (List Int)) : (List Int))) rfl rfl (j_ownb (j_setO (j_re (Γ' := [some (.d (toD (n : Int))), some (.o (toD (([] : (List Int)) : (List Int)))), none, none, none, none, none]) rfl (j_seq (Γs := fun (s82 : (List Int)) => [some (.d (toD (n : Int))), some (.o (toD (s82 : (List Int)))), none, none, none, none, none]) (j_sFor (j_iRg1 (j_bin (j_var rfl (j_c (j_op (rd_d rfl) rd_b x_add (j_rg1 rd_b fun xs1 => (j_for (l := [1, 1, 0, 0, 0, 0, 0]) (D := toD) (Γs := fun (s82 : (List Int)) => [some (.d (toD (n : Int))), some (.o (toD (s82 : (List Int)))), none, none, none, none, none]) (([] : (List Int))) rfl (fun _ => rfl) fun s82 x83 => (j_gN (j_re (Γ' := [some (.d (toD (n : Int))), some (.o (toD (s82 : (List Int)))), some (.d (toD (x83 : Int))), none, none, none, none]) rfl (j_asg (j_c (j_fzb (fzb_of fz_b) (j_setD (j_re (Γ' := [some (.d (toD (n : Int))), some (.o (toD (s82 : (List Int)))), some (.d (toD (x83 : Int))), some (.d (toD ((0 : Int) : Int))), none, none, none]) rfl (j_seq (Γs := fun (s107 : Int) => [some (.d (toD (n : Int))), some (.o (toD (s82 : (List Int)))), some (.d (toD (x83 : Int))), some (.d (toD (s107 : Int))), none, none, none]) (j_sFor (j_iRg1 (j_bin (j_var rfl (j_c (j_op (rd_d rfl) rd_b x_add (j_rg1 rd_b fun xs84 => (j_for (l := [1, 1, 1, 1, 0, 0, 0]) (D := toD) (Γs := fun (s107 : Int) => [some (.d (toD (n : Int))), some (.o (toD (s82 : (List Int)))), some (.d (toD (x83 : Int))), some (.d (toD (s107 : Int))), none, none, none]) ((0 : Int)) rfl (fun _ => rfl) fun s107 x108 => (j_gN (j_re (Γ' := [some (.d (toD (n : Int))), some (.o (toD (s82 : (List Int)))), some (.d (toD (x83 : Int))), some (.d (toD (s107 : Int))), some (.d (toD (x108 : Int))), none, none]) rfl (j_asg (j_c (j_fzb (fzb_of fz_b) (j_setD (j_re (Γ' := [some (.d (toD (n : Int))), some (.o (toD (s82 : (List Int)))), some (.d (toD (x83 : Int))), some (.d (toD (s107 : Int))), some (.d (toD (x108 : Int))), some (.d (toD ((1 : Int) : Int))), none]) rfl (j_seq (Γs := fun (s112 : Int) => [some (.d (toD (n : Int))), some (.o (toD (s82 : (List Int)))), some (.d (toD (x83 : Int))), some (.d (toD (s107 : Int))), some (.d (toD (x108 : Int))), some (.d (toD (s112 : Int))), none]) (j_sFor (j_iRg1 (j_bin (j_var rfl (j_var rfl (j_op (rd_d rfl) (rd_d rfl) x_sub (j_rg1 rd_b fun xs109 => (j_for (l := [1, 1, 1, 1, 1, 1, 0]) (D := toD) (Γs := fun (s112 : Int) => [some (.d (toD (n : Int))), some (.o (toD (s82 : (List Int)))), some (.d (toD (x83 : Int))), some (.d (toD (s107 : Int))), some (.d (toD (x108 : Int))), some (.d (toD (s112 : Int))), none]) ((1 : Int)) rfl (fun _ => rfl) fun s112 x113 => (j_gN (j_last (j_re (Γ' := [some (.d (toD (n : Int))), some (.o (toD (s82 : (List Int)))), some (.d (toD (x83 : Int))), some (.d (toD (s107 : Int))), some (.d (toD (x108 : Int))), some (.d (toD (s112 : Int))), some (.d (toD (x113 : Int)))]) rfl (j_asg (j_bin (j_var rfl (j_bin (j_var rfl (j_c (j_op (rd_d rfl) rd_b x_add (j_opR (rd_d rfl) rd_b x_mulR fun v114 => (j_fzb (fzb_of fz_b) (j_setD (j_nil (l := [1, 1, 1, 1, 1, 1, 0]) rfl rfl)))))))))))))))))))))) fun s115 => (j_last (j_re (Γ' := [some (.d (toD (n : Int))), some (.o (toD (s82 : (List Int)))), some (.d (toD (x83 : Int))), some (.d (toD (s107 : Int))), some (.d (toD (x108 : Int))), some (.d (toD (s115 : Int))), none]) rfl (j_asg (j_bin (j_var rfl (j_bin (j_bin (j_bin (j_lst (j_dcons (j_c (j_fz fz_b (j_dcons (j_un (j_c (j_unop rd_b x_neg (j_fz fz_b (j_dnil (j_lst2 (toD ([(1 : Int), (-(1 : Int))] : (List Int))) rfl rfl (j_bin (j_var rfl (j_c (j_op (rd_d rfl) rd_b (x_mod (by decide)) (j_opR rd_w rd_b (x_ix (τ := Int)) fun v116 => (j_callP (j_aP (j_var rfl (j_aPs (j_aP (j_var rfl (j_aPs (j_anil (j_callPop rfl (la_d rfl (la_d rfl la_nil)) rfl (sim__law_chosen x83 x108) (fun _ => rfl) fun v117 => (j_opR rd_b rd_b x_mulR fun v118 => (j_var rfl (j_opR rd_b (rd_d rfl) x_mulR fun v119 => (j_op (rd_d rfl) rd_b x_add (j_fzb (fzb_of fz_b) (j_setD (j_nil (l := [1, 1, 1, 1, 0, 0, 0]) rfl rfl)))))))))))))))))))))))))))))))))))))))))))))))))))))))) fun s120 => (j_last (j_re (Γ' := [some (.d (toD (n : Int))), some (.o (toD (s82 : (List Int)))), some (.d (toD (x83 : Int))), some (.d (toD (s120 : Int))), none, none, none]) rfl (j_expr (j_mth (j_chk rfl rfl (j_dcons (j_bin (j_callP (j_aP (j_var rfl (j_aPs (j_aP (j_var rfl (j_aPs (j_anil (j_callPop rfl (la_d rfl (la_d rfl la_nil)) rfl (sim__law_chosen n x83) (fun _ => rfl) fun v121 => (j_var rfl (j_opR rd_b (rd_d rfl) x_mulR fun v122 => (j_fz fz_b (j_dnil (j_mthopR (z := fun _ => .fr .none) (es := fun a => a.map toD) (y := fun a => toD a) rfl (x_app (τ := Int)) (fun _ => rfl) fun v123 => (j_nil (l := [1, 1, 0, 0, 0, 0, 0]) rfl rfl)))))))))))))))))))))))))))))))))))))) fun s124 => (j_last (j_re (Γ' := [some (.d (toD (n : Int))), some (.o (toD (s124 : (List Int)))), none, none, none, none, none]) rfl (j_ret (j_var rfl (j_rets (l := [0, 0, 0, 0, 0, 0, 0]) rfl (fun _ => sl_id) rfl rfl)))))))))))))) (fun a p hp => nomatch hp)
def m__law_swaps : Nat → Int → R ((List Int))
  | 0, _ => .no
  | rj + 1, n =>
    if (decide (n = (1 : Int))) = true then
      (.ok ([(1 : Int)]))
      else
      (R.bind (m__law_swaps rj ((n - (1 : Int)))) fun v1 =>
      R.bind (ob (mulI n ((n - (1 : Int)))) fun v2 =>
      ob (rg1 (((v2 / (2 : Int)) + (1 : Int)))) fun xs3 =>
      foldM (fun (s18 : (List Int)) (x19 : Int) =>
      ob (rg1 n) fun xs20 =>
      ob (lcP (fun (x21 : Int) => true) (fun (x21 : Int) => ((x19 - x21))) xs20) fun ys22 =>
      R.bind (lcM (fun (x23 : Int) => R.calm (if ((decide ((0 : Int) ≤ x23)) && (decide (x23 < (v1.length : Int)))) = true then
      (ob (atI v1 x23) fun v24 =>
      .ok (some v24))
      else
      (.ok none))) ys22 []) fun ys25 =>
      ob (appL s18 ((ys25.sum))) fun v26 =>
      .ok v26) xs3 (([] : (List Int)))) fun (s27 : (List Int)) =>
      .ok s27)
theorem sim__law_swaps : ∀ (rj : Nat) (n : Int), FnS (r__law_swaps rj) [.fr (toD (n : Int))] (m__law_swaps rj n) (fun a : (List Int) => .o (toD (a : (List Int)))) (fun a : (List Int) => [])
  | 0, _ => trivial
  | rj + 1, n =>
  fn_mk (n := 5) (rv := fun a : (List Int) => .o (toD (a : (List Int)))) (ss := [(.d (toD (n : Int)))]) (Γe := fun a : (List Int) => [none, none, none, none, none, none]) rfl (.cons rfl All2.nil) rfl
      (j_re (Γ' := [some (.d (toD (n : Int))), none, none, none, none, none]) rfl (j_if (j_test (j_bin (j_var rfl (j_c (j_op (rd_d rfl) rd_b (x_eq (τ := Int)) (j_bool rd_b (j_ite (j_re (Γ' := [some (.d (toD (n : Int))), none, none, none, none, none]) rfl (j_ret (j_lst (j_dcons (j_c (j_fz fz_b (j_dnil (j_lst2 (toD ([(1 : Int)] : (List Int))) rfl rfl (j_retb (l := [0, 0, 0, 0, 0, 0]) sl_o rfl rfl))))))))) (j_seqNil (j_re (Γ' := [some (.d (toD (n : Int))), none, none, none, none, none]) rfl (j_asg (j_call (j_aF (j_bin (j_var rfl (j_c (j_op (rd_d rfl) rd_b x_sub (j_fzb (fzb_of fz_b) (j_anil (j_callO rfl (ba_b ba_nil) (sim__law_swaps rj ((n - (1 : Int)))) (fun _ => rfl) fun v1 => (j_fzb (fzb_of fz_w) (j_setD (j_re (Γ' := [some (.d (toD (n : Int))), some (.d (toD (v1 : (List Int)))), none, none, none, none]) rfl (j_own (j_lst (j_dnil (j_lst2 (toD (([] : (List Int)) : (List Int))) rfl rfl (j_ownb (j_setO (j_re (Γ' := [some (.d (toD (n : Int))), some (.d (toD (v1 : (List Int)))), some (.o (toD (([] : (List Int)) : (List Int)))), none, none, none]) rfl (j_seq (Γs := fun (s18 : (List Int)) => [some (.d (toD (n : Int))), some (.d (toD (v1 : (List Int)))), some (.o (toD (s18 : (List Int)))), none, none, none]) (j_sFor (j_iRg1 (j_bin (j_bin (j_bin (j_var rfl (j_bin (j_var rfl (j_c (j_op (rd_d rfl) rd_b x_sub (j_opR (rd_d rfl) rd_b x_mulR fun v2 => (j_c (j_op rd_b rd_b (x_fdiv (cfdiv_r (by decide))) (j_c (j_op rd_b rd_b x_add (j_rg1 rd_b fun xs3 => (j_for (l := [1, 1, 1, 0, 0, 0]) (D := toD) (Γs := fun (s18 : (List Int)) => [some (.d (toD (n : Int))), some (.d (toD (v1 : (List Int)))), some (.o (toD (s18 : (List Int)))), none, none, none]) (([] : (List Int))) rfl (fun _ => rfl) fun s18 x19 => (j_gN (j_re (Γ' := [some (.d (toD (n : Int))), some (.d (toD (v1 : (List Int)))), some (.o (toD (s18 : (List Int)))), some (.d (toD (x19 : Int))), none, none]) rfl (j_asg (j_lc (j_iRg1 (j_var rfl (j_rg1 (rd_d rfl) fun xs20 => (j_lcP (Γs := [some (.d (toD (n : Int))), some (.d (toD (v1 : (List Int)))), some (.o (toD (s18 : (List Int)))), some (.d (toD (x19 : Int))), none, none]) (l := [1, 1, 1, 1, 0, 0]) (D := toD) (E := toD) (xr := fun a => toD a) (p := fun (x21 : Int) => true) (q := fun (x21 : Int) => ((x19 - x21))) rfl rfl (fun x21 => (j_gN (j_tt (j_bin (j_var rfl (j_var rfl (j_op (rd_d rfl) (rd_d rfl) x_sub (j_kf (l := [1, 1, 1, 1, 0, 0]) fz_b rfl rfl)))))))) (fun _ => rfl) fun ys22 => (j_fzb (fzb_of fz_w) (j_setD (j_last (j_re (Γ' := [some (.d (toD (n : Int))), some (.d (toD (v1 : (List Int)))), some (.o (toD (s18 : (List Int)))), some (.d (toD (x19 : Int))), some (.d (toD (ys22 : (List Int)))), none]) rfl (j_expr (j_mth (j_chk rfl rfl (j_dcons (j_cb (j_acons (j_lc (j_iSeq (j_var rfl (j_it (fz_d rfl) rfl (j_lcM (Γs := [some (.d (toD (n : Int))), some (.d (toD (v1 : (List Int)))), some (.o (toD (s18 : (List Int)))), some (.d (toD (x19 : Int))), some (.d (toD (ys22 : (List Int)))), none]) (l := [1, 1, 1, 1, 1, 0]) (D := toD) (E := toD) (xr := fun a => toD a) rfl rfl (fun x23 => (j_gN (j_test (j_chain (j_c (j_var rfl (j_chain3 rd_b (rd_d rfl) x_le (j_cb (j_acons (j_var rfl (j_anil (j_cbop (ra_cons (rd_d rfl) ra_nil) (x_len (τ := Int)) (j_ko (l := [1, 1, 1, 1, 1, 1]) rd_b rfl rfl)))))) x_lt (j_bool rd_b (j_ite (j_bin (j_var rfl (j_var rfl (j_opR (rd_d rfl) (rd_d rfl) (x_ix (τ := Int)) fun v24 => (j_kf (l := [1, 1, 1, 1, 1, 0]) fz_b rfl rfl))))) (j_skip (l := [1, 1, 1, 1, 1, 0]) rfl rfl)))))))))) (fun _ => rfl) fun ys25 => (j_anil (j_cbop (ra_cons rd_w ra_nil) x_sum (j_fz fz_b (j_dnil (j_mthopR (z := fun _ => .fr .none) (es := fun a => a.map toD) (y := fun a => toD a) rfl (x_app (τ := Int)) (fun _ => rfl) fun v26 => (j_nil (l := [1, 1, 1, 0, 0, 0]) rfl rfl)))))))))))))))))))))))))))))))))))))))))))))) fun s27 => (j_last (j_re (Γ' := [some (.d (toD (n : Int))), some (.d (toD (v1 : (List Int)))), some (.o (toD (s27 : (List Int)))), none, none, none]) rfl (j_ret (j_var rfl (j_rets (l := [0, 0, 0, 0, 0, 0]) rfl (fun _ => sl_id) rfl rfl))))))))))))))))))))))))))))))))))))) (fun a p hp => nomatch hp)
def m__law_within (way : Str) (n : Int) (r : Int) : R Int :=
  ob (eqG way (("shift" : Str))) fun v1 =>
  if v1 = true then
  (R.bind (m__law_shifts n r) fun v2 =>
  .ok v2)
  else
  (ob (eqG way (("spot" : Str))) fun v3 =>
  if (b2i v3) = (0 : Int) then
  (R.bind (m__law_swaps 30 n) fun v4 =>
  ob (lcP (fun (x5 : (Int × Int)) => (decide (x5.1 ≤ r))) (fun (x5 : (Int × Int)) => x5.2) ((enumT 0 v4))) fun ys6 =>
  .ok ((ys6.sum)))
  else if (b2i v3) = (1 : Int) then
  (R.bind (m__law_spots n) fun v7 =>
  ob (lcP (fun (x8 : (Int × Int)) => (decide (x8.1 ≤ r))) (fun (x8 : (Int × Int)) => x8.2) ((enumT 0 v7))) fun ys9 =>
  .ok ((ys9.sum)))
  else .no)
theorem sim__law_within (way : Str) (n : Int) (r : Int) : FnS h__law_within [.fr (toD (way : Str)), .fr (toD (n : Int)), .fr (toD (r : Int))] (m__law_within way n r) (fun a : Int => .d (toD (a : Int))) (fun a : Int => []) :=
  fn_mk (n := 3) (rv := fun a : Int => .d (toD (a : Int))) (ss := [(.d (toD (way : Str))), (.d (toD (n : Int))), (.d (toD (r : Int)))]) (Γe := fun a : Int => [none, none, none, none, none, none]) rfl (.cons rfl (.cons rfl (.cons rfl All2.nil))) rfl
  (j_re (Γ' := [some (.d (toD (way : Str))), some (.d (toD (n : Int))), some (.d (toD (r : Int))), none, none, none]) rfl (j_if (j_test (j_bin (j_var rfl (j_c (j_opR (rd_d rfl) rd_b (x_eqG (τ := Str)) fun v1 => (j_bool rd_b (j_ite (j_re (Γ' := [some (.d (toD (way : Str))), some (.d (toD (n : Int))), some (.d (toD (r : Int))), none, none, none]) rfl (j_ret (j_call (j_aF (j_var rfl (j_fzb (fzb_of (fz_d rfl)) (j_aF (j_var rfl (j_fzb (fzb_of (fz_d rfl)) (j_anil (j_callF rfl (ba_b (ba_b ba_nil)) (sim__law_shifts n r) (fun _ => rfl) (fun _ => rfl) fun v2 => (j_retb (l := [0, 0, 0, 0, 0, 0]) sl_d rfl rfl)))))))))))) (j_seqNil (j_re (Γ' := [some (.d (toD (way : Str))), some (.d (toD (n : Int))), some (.d (toD (r : Int))), none, none, none]) rfl (j_asg (j_pick (j_cb (j_acons (j_bin (j_var rfl (j_c (j_opR (rd_d rfl) rd_b (x_eqG (τ := Str)) fun v3 => (j_anil (j_cbop (ra_cons rd_b ra_nil) x_intB (j_pickI rd_b (j_call (j_aF (j_var rfl (j_fzb (fzb_of (fz_d rfl)) (j_anil (j_callO rfl (ba_b ba_nil) (sim__law_swaps 30 n) (fun _ => rfl) fun v4 => (j_fzb (fzb_of fz_w) (j_setD (j_last (j_re (Γ' := [some (.d (toD (way : Str))), some (.d (toD (n : Int))), some (.d (toD (r : Int))), some (.d (toD (v4 : (List Int)))), none, none]) rfl (j_ret (j_cb (j_acons (j_lc (j_iEnum (j_var rfl (j_it (fz_d rfl) (selE_map toD _) (j_lcP (Γs := [some (.d (toD (way : Str))), some (.d (toD (n : Int))), some (.d (toD (r : Int))), some (.d (toD (v4 : (List Int)))), none, none]) (l := [1, 1, 1, 1, 0, 0]) (D := toD) (E := toD) (xr := fun a => toD a) (p := fun (x5 : (Int × Int)) => (decide (x5.1 ≤ r))) (q := fun (x5 : (Int × Int)) => x5.2) rfl rfl (fun x5 => (j_gT2 (j_test (j_bin (j_var rfl (j_var rfl (j_op (rd_d rfl) (rd_d rfl) x_le (j_bool rd_b (j_ite (j_var rfl (j_kf (l := [1, 1, 1, 1, 0, 0]) (fz_d rfl) rfl rfl)) (j_skip (l := [1, 1, 1, 1, 0, 0]) rfl rfl)))))))))) (fun _ => rfl) fun ys6 => (j_anil (j_cbop (ra_cons rd_w ra_nil) x_sum (j_retb (l := [0, 0, 0, 0, 0, 0]) sl_d rfl rfl))))))))))))))))))))) (j_call (j_aF (j_var rfl (j_fzb (fzb_of (fz_d rfl)) (j_anil (j_callO rfl (ba_b ba_nil) (sim__law_spots n) (fun _ => rfl) fun v7 => (j_fzb (fzb_of fz_w) (j_setD (j_last (j_re (Γ' := [some (.d (toD (way : Str))), some (.d (toD (n : Int))), some (.d (toD (r : Int))), some (.d (toD (v7 : (List Int)))), none, none]) rfl (j_ret (j_cb (j_acons (j_lc (j_iEnum (j_var rfl (j_it (fz_d rfl) (selE_map toD _) (j_lcP (Γs := [some (.d (toD (way : Str))), some (.d (toD (n : Int))), some (.d (toD (r : Int))), some (.d (toD (v7 : (List Int)))), none, none]) (l := [1, 1, 1, 1, 0, 0]) (D := toD) (E := toD) (xr := fun a => toD a) (p := fun (x8 : (Int × Int)) => (decide (x8.1 ≤ r))) (q := fun (x8 : (Int × Int)) => x8.2) rfl rfl (fun x8 => (j_gT2 (j_test (j_bin (j_var rfl (j_var rfl (j_op (rd_d rfl) (rd_d rfl) x_le (j_bool rd_b (j_ite (j_var rfl (j_kf (l := [1, 1, 1, 1, 0, 0]) (fz_d rfl) rfl rfl)) (j_skip (l := [1, 1, 1, 1, 0, 0]) rfl rfl)))))))))) (fun _ => rfl) fun ys9 => (j_anil (j_cbop (ra_cons rd_w ra_nil) x_sum (j_retb (l := [0, 0, 0, 0, 0, 0]) sl_d rfl rfl))))))))))))))))))))))))))))))))))))))))))) (fun a p hp => nomatch hp)
def m__law_right (way : Str) (n : Int) (r : Int) : R Bool :=
  R.bind (m__law_within way n r) fun v1 =>
  R.bind (if (decide ((0 : Int) < r)) = true then
  (R.bind (m__law_within way n ((r - (1 : Int)))) fun v4 =>
  .ok v4)
  else
  (.ok ((0 : Int)))) fun (s3 : Int) =>
  R.bind (ob (rg1 ((2 : Int))) fun xs5 =>
  loopM (fun (s10 : Unit) (x11 : Int) =>
  R.bind (m_count_within way n r) fun v12 =>
  R.bind (m__law_whole v12 v1) fun v13 =>
  if (!v13) = true then
  (.ok (.rt false))
  else
  (R.bind (m_count_at way n r) fun v14 =>
  R.bind (m__law_whole v14 ((v1 - s3))) fun v15 =>
  if (!v15) = true then
  (.ok (.rt false))
  else
  (.ok (.nx ())))) xs5 (())) (Fl.out fun (s16 : Unit) =>
  .ok true)
theorem sim__law_right (way : Str) (n : Int) (r : Int) : FnS h__law_right [.fr (toD (way : Str)), .fr (toD (n : Int)), .fr (toD (r : Int))] (m__law_right way n r) (fun a : Bool => .d (toD (a : Bool))) (fun a : Bool => []) :=
  fn_mk (n := 3) (rv := fun a : Bool => .d (toD (a : Bool))) (ss := [(.d (toD (way : Str))), (.d (toD (n : Int))), (.d (toD (r : Int)))]) (Γe := fun a : Bool => [none, none, none, none, none, none]) rfl (.cons rfl (.cons rfl (.cons rfl All2.nil))) rfl
  (j_re (Γ' := [some (.d (toD (way : Str))), some (.d (toD (n : Int))), some (.d (toD (r : Int))), none, none, none]) rfl (j_asg (j_call (j_aF (j_var rfl (j_fzb (fzb_of (fz_d rfl)) (j_aF (j_var rfl (j_fzb (fzb_of (fz_d rfl)) (j_aF (j_var rfl (j_fzb (fzb_of (fz_d rfl)) (j_anil (j_callF rfl (ba_b (ba_b (ba_b ba_nil))) (sim__law_within way n r) (fun _ => rfl) (fun _ => rfl) fun v1 => (j_fzb (fzb_of fz_b) (j_setD (j_re (Γ' := [some (.d (toD (way : Str))), some (.d (toD (n : Int))), some (.d (toD (r : Int))), some (.d (toD (v1 : Int))), none, none]) rfl (j_asg (j_c (j_fzb (fzb_of fz_b) (j_setD (j_re (Γ' := [some (.d (toD (way : Str))), some (.d (toD (n : Int))), some (.d (toD (r : Int))), some (.d (toD (v1 : Int))), some (.d (toD ((0 : Int) : Int))), none]) rfl (j_seq (Γs := fun (s3 : Int) => [some (.d (toD (way : Str))), some (.d (toD (n : Int))), some (.d (toD (r : Int))), some (.d (toD (v1 : Int))), some (.d (toD (s3 : Int))), none]) (j_if1 (j_test (j_bin (j_var rfl (j_c (j_op (rd_d rfl) rd_b x_gt (j_bool rd_b (j_ite (j_last (j_re (Γ' := [some (.d (toD (way : Str))), some (.d (toD (n : Int))), some (.d (toD (r : Int))), some (.d (toD (v1 : Int))), some (.d (toD ((0 : Int) : Int))), none]) rfl (j_asg (j_call (j_aF (j_var rfl (j_fzb (fzb_of (fz_d rfl)) (j_aF (j_var rfl (j_fzb (fzb_of (fz_d rfl)) (j_aF (j_bin (j_var rfl (j_c (j_op (rd_d rfl) rd_b x_sub (j_fzb (fzb_of fz_b) (j_anil (j_callF rfl (ba_b (ba_b (ba_b ba_nil))) (sim__law_within way n ((r - (1 : Int)))) (fun _ => rfl) (fun _ => rfl) fun v4 => (j_fzb (fzb_of fz_b) (j_setD (j_nil (l := [1, 1, 1, 1, 1, 0]) rfl rfl))))))))))))))))))))) (j_nil (l := [1, 1, 1, 1, 1, 0]) rfl rfl))))))))) fun s3 => (j_re (Γ' := [some (.d (toD (way : Str))), some (.d (toD (n : Int))), some (.d (toD (r : Int))), some (.d (toD (v1 : Int))), some (.d (toD (s3 : Int))), none]) rfl (j_seqF (Γs := fun (s10 : Unit) => [some (.d (toD (way : Str))), some (.d (toD (n : Int))), some (.d (toD (r : Int))), some (.d (toD (v1 : Int))), some (.d (toD (s3 : Int))), none]) (fun _ => rfl) (j_sFor (j_iRg1 (j_c (j_rg1 rd_b fun xs5 => (j_loop (l := [1, 1, 1, 1, 1, 0]) (D := toD) (Γs := fun (s10 : Unit) => [some (.d (toD (way : Str))), some (.d (toD (n : Int))), some (.d (toD (r : Int))), some (.d (toD (v1 : Int))), some (.d (toD (s3 : Int))), none]) (()) rfl (fun _ => ⟨_, _, rfl⟩) (fun _ => rfl) fun s10 x11 => (j_gN (j_re (Γ' := [some (.d (toD (way : Str))), some (.d (toD (n : Int))), some (.d (toD (r : Int))), some (.d (toD (v1 : Int))), some (.d (toD (s3 : Int))), some (.d (toD (x11 : Int)))]) rfl (j_if (j_not (j_test (j_callP (j_aP (j_callP (j_aP (j_var rfl (j_aPs (j_aP (j_var rfl (j_aPs (j_aP (j_var rfl (j_aPs (j_anil (j_callPop rfl (la_d rfl (la_d rfl (la_d rfl la_nil))) rfl (sim_count_within way n r) (fun _ => rfl) fun v12 => (j_aPb (j_aP (j_var rfl (j_aPs (j_anil (j_callPop rfl (la_b (la_d rfl la_nil)) rfl (sim__law_whole v12 v1) (fun _ => rfl) fun v13 => (j_bool rd_b (j_ite (j_re (Γ' := [some (.d (toD (way : Str))), some (.d (toD (n : Int))), some (.d (toD (r : Int))), some (.d (toD (v1 : Int))), some (.d (toD (s3 : Int))), some (.d (toD (x11 : Int)))]) rfl (j_ret (j_c (j_retb (l := [0, 0, 0, 0, 0, 0]) sl_d rfl rfl)))) (j_seqNil (j_last (j_re (Γ' := [some (.d (toD (way : Str))), some (.d (toD (n : Int))), some (.d (toD (r : Int))), some (.d (toD (v1 : Int))), some (.d (toD (s3 : Int))), some (.d (toD (x11 : Int)))]) rfl (j_if (j_not (j_test (j_callP (j_aP (j_callP (j_aP (j_var rfl (j_aPs (j_aP (j_var rfl (j_aPs (j_aP (j_var rfl (j_aPs (j_anil (j_callPop rfl (la_d rfl (la_d rfl (la_d rfl la_nil))) rfl (sim_count_at way n r) (fun _ => rfl) fun v14 => (j_aPb (j_aP (j_bin (j_var rfl (j_var rfl (j_op (rd_d rfl) (rd_d rfl) x_sub (j_aPb (j_anil (j_callPop rfl (la_b (la_b la_nil)) rfl (sim__law_whole v14 ((v1 - s3))) (fun _ => rfl) fun v15 => (j_bool rd_b (j_ite (j_re (Γ' := [some (.d (toD (way : Str))), some (.d (toD (n : Int))), some (.d (toD (r : Int))), some (.d (toD (v1 : Int))), some (.d (toD (s3 : Int))), some (.d (toD (x11 : Int)))]) rfl (j_ret (j_c (j_retb (l := [0, 0, 0, 0, 0, 0]) sl_d rfl rfl)))) (j_seqNil (j_nil (l := [1, 1, 1, 1, 1, 0]) rfl rfl))))))))))))))))))))))))))))))))))))))))))))))))))))))))))))))))) fun s16 => (j_last (j_re (Γ' := [some (.d (toD (way : Str))), some (.d (toD (n : Int))), some (.d (toD (r : Int))), some (.d (toD (v1 : Int))), some (.d (toD (s3 : Int))), none]) rfl (j_ret (j_c (j_retb (l := [0, 0, 0, 0, 0, 0]) sl_d rfl rfl)))))))))))))))))))))))))))))) (fun a p hp => nomatch hp)
def m__law_take (store : ((List Int) × Int)) (many : Int) : R ((Int × ((List Int) × Int))) :=
  ob (modI ((((store.1, (store.2 + (1 : Int)))).2 - (1 : Int))) (((((store.1, (store.2 + (1 : Int)))).1).length : Int))) fun v1 =>
  ob (atI (((store.1, (store.2 + (1 : Int)))).1) v1) fun v2 =>
  ob (modI v2 many) fun v3 =>
  .ok ((v3, (store.1, (store.2 + (1 : Int)))))
theorem sim__law_take (store : ((List Int) × Int)) (many : Int) : FnS h__law_take [bow (.list [(toD (store.1 : (List Int))), (toD (store.2 : Int))]), .fr (toD (many : Int))] (m__law_take store many) (fun a : (Int × ((List Int) × Int)) => .d (toD (a.1 : Int))) (fun a : (Int × ((List Int) × Int)) => [(0, (.o (.list [(toD (a.2.1 : (List Int))), (toD (a.2.2 : Int))])))]) :=
  fn_mk (n := 0) (rv := fun a : (Int × ((List Int) × Int)) => .d (toD (a.1 : Int))) (ss := [(.o (.list [(toD (store.1 : (List Int))), (toD (store.2 : Int))])), (.d (toD (many : Int)))]) (Γe := fun a : (Int × ((List Int) × Int)) => [some (.o (.list [(toD (a.2.1 : (List Int))), (toD (a.2.2 : Int))])), none]) rfl (.cons sl_o (.cons rfl All2.nil)) rfl
  (j_put (j_bin (j_bin (j_var rfl (j_c (j_op (rd_o rfl) rd_b rfl (j_c (j_op rd_b rd_b x_add (j_fz fz_b (j_has rfl (j_c (j_putI0 (y := (.list [(toD (((store.1, (store.2 + (1 : Int)))).1 : (List Int))), (toD (((store.1, (store.2 + (1 : Int)))).2 : Int))])) rfl rd_b rfl (j_last (j_ret (j_bin (j_bin (j_bin (j_var rfl (j_c (j_op (rd_o rfl) rd_b rfl (j_bin (j_bin (j_bin (j_var rfl (j_c (j_op (rd_o rfl) rd_b rfl (j_c (j_op rd_b rd_b x_sub (j_cb (j_acons (j_bin (j_var rfl (j_c (j_op (rd_o rfl) rd_b rfl (j_anil (j_cbop (ra_cons rd_b ra_nil) (x_len (τ := Int)) (j_opR rd_b rd_b x_modR fun v1 => (j_opR rd_b rd_b (x_ix (τ := Int)) fun v2 => (j_var rfl (j_opR rd_b (rd_d rfl) x_modR fun v3 => (j_retb (l := [1, 0]) sl_d rfl rfl))))))))))))))))))))))))))))))))))))))))) (fun a p hp => by
    simp only [List.mem_cons, List.not_mem_nil, or_false] at hp
    subst hp; rfl)
def m_law (script : (List Int)) : R Bool :=
  R.bind (m__law_draws script ((100 : Int))) fun v1 =>
  R.bind (ob (rg1 ((4 : Int))) fun xs2 =>
  loopM (fun (s107 : ((List Int) × Int)) (x108 : Int) =>
  R.bind (m__law_take s107 ((12 : Int))) fun v109 =>
  R.bind (m__law_take v109.2 ((6 : Int))) fun v110 =>
  R.bind (m__law_take v110.2 ((3 : Int))) fun v111 =>
  ob (atI ([((1 : Int) + v109.1), (12 : Int), ((1 : Int) + v110.1)]) v111.1) fun v112 =>
  R.bind (loopM (fun (s143 : ((List Int) × Int)) (x144 : Str) =>
  ob (mulI v112 ((v112 - (1 : Int)))) fun v145 =>
  ob (lookT ((mergeT ([(("swap" : Str), (v145 / (2 : Int))), (("spot" : Str), v112), (("shift" : Str), (v112 - (1 : Int)))] : (List (Str × Int))))) x144) fun v146 =>
  R.bind (m__law_take s143 ((4 : Int))) fun v147 =>
  R.bind (m__law_take v147.2 ((v146 + (1 : Int)))) fun v148 =>
  R.bind (m__law_take v148.2 ((99 : Int))) fun v149 =>
  ob (atI ([((10 : Int) ^ ((25 : Int)).toNat), (v146 + v149.1)]) ((x108 % (2 : Int)))) fun v150 =>
  ob (addL ([v147.1, v148.1, v146, (v146 + (1 : Int))]) ([(max2 ((0 : Int)) ((v146 - (1 : Int)))), v150])) fun v151 =>
  R.bind (m__law_take v149.2 ((6 : Int))) fun v152 =>
  ob (atI v151 v152.1) fun v153 =>
  ob (eqG x144 (("shift" : Str))) fun v155 =>
  if v155 = true then
  (ob (atI ([v112, (min2 v112 ((8 : Int)))]) ((b2i ((decide ((0 : Int) < x108)))))) fun v156 =>
  R.bind (m__law_right x144 v156 v153) fun v157 =>
  if (!v157) = true then
  (.ok (.rt false))
  else
  (.ok (.nx v152.2)))
  else (ob (atI ([v112, (min2 v112 ((8 : Int)))]) ((b2i false))) fun v158 =>
  R.bind (m__law_right x144 v158 v153) fun v159 =>
  if (!v159) = true then
  (.ok (.rt false))
  else
  (.ok (.nx v152.2)))) ([("swap" : Str), ("spot" : Str), ("shift" : Str)]) v111.2) (Fl.outF fun (s160 : ((List Int) × Int)) =>
  .ok (.nx s160))) xs2 ((v1, (0 : Int)))) (Fl.out fun (s161 : ((List Int) × Int)) =>
  .ok true)
theorem sim_law (script : (List Int)) : FnS h_law [.sc script] (m_law script) (fun a : Bool => .d (toD (a : Bool))) (fun a : Bool => []) :=
  fn_mk (n := 8) (rv := fun a : Bool => .d (toD (a : Bool))) (ss := [.sc script]) (Γe := fun a : Bool => [none, none, none, none, none, none, none, none, none]) rfl (.cons rfl All2.nil) rfl
  (j_re (Γ' := [some (.sc script), none, none, none, none, none, none, none, none]) rfl (j_own (j_lst (j_dcons (j_call (j_aF (j_var rfl (j_fzb (fzb_sc rfl) (j_aF (j_c (j_fzb (fzb_of fz_b) (j_anil (j_callO rfl (ba_b (ba_b ba_nil)) (sim__law_draws script ((100 : Int))) (fun _ => rfl) fun v1 => (j_fz fz_w (j_dcons (j_c (j_fz fz_b (j_dnil (j_lst2 (.list [(toD (((v1, (0 : Int))).1 : (List Int))), (toD (((v1, (0 : Int))).2 : Int))]) rfl rfl (j_ownb (j_setO (j_re (Γ' := [some (.sc script), some (.o (.list [(toD (((v1, (0 : Int))).1 : (List Int))), (toD (((v1, (0 : Int))).2 : Int))])), none, none, none, none, none, none, none]) rfl (j_seqF (Γs := fun (s107 : ((List Int) × Int)) => [some (.sc script), some (.o (.list [(toD (s107.1 : (List Int))), (toD (s107.2 : Int))])), none, none, none, none, none, none, none]) (fun _ => rfl) (j_sFor (j_iRg1 (j_c (j_rg1 rd_b fun xs2 => (j_loop (l := [1, 1, 0, 0, 0, 0, 0, 0, 0]) (D := toD) (Γs := fun (s107 : ((List Int) × Int)) => [some (.sc script), some (.o (.list [(toD (s107.1 : (List Int))), (toD (s107.2 : Int))])), none, none, none, none, none, none, none]) ((v1, (0 : Int))) rfl (fun _ => ⟨_, _, rfl⟩) (fun _ => rfl) fun s107 x108 => (j_gN (j_re (Γ' := [some (.sc script), some (.o (.list [(toD (s107.1 : (List Int))), (toD (s107.2 : Int))])), some (.d (toD (x108 : Int))), none, none, none, none, none, none]) rfl (j_asg (j_bin (j_lst (j_dcons (j_bin (j_c (j_call (j_aM rfl (j_aF (j_c (j_fzb (fzb_of fz_b) (j_anil (j_callF rfl (ba_o rfl (ba_b ba_nil)) (sim__law_take s107 ((12 : Int))) (fun _ => rfl) (fun _ => rfl) fun v109 => (j_op rd_b rd_b x_add (j_fz fz_b (j_dcons (j_c (j_fz fz_b (j_dcons (j_bin (j_c (j_call (j_aM rfl (j_aF (j_c (j_fzb (fzb_of fz_b) (j_anil (j_callF rfl (ba_o rfl (ba_b ba_nil)) (sim__law_take v109.2 ((6 : Int))) (fun _ => rfl) (fun _ => rfl) fun v110 => (j_op rd_b rd_b x_add (j_fz fz_b (j_dnil (j_lst2 (toD ([((1 : Int) + v109.1), (12 : Int), ((1 : Int) + v110.1)] : (List Int))) rfl rfl (j_call (j_aM rfl (j_aF (j_c (j_fzb (fzb_of fz_b) (j_anil (j_callF rfl (ba_o rfl (ba_b ba_nil)) (sim__law_take v110.2 ((3 : Int))) (fun _ => rfl) (fun _ => rfl) fun v111 => (j_opR rd_w rd_b (x_ix (τ := Int)) fun v112 => (j_fzb (fzb_of fz_b) (j_setD (j_last (j_re (Γ' := [some (.sc script), some (.o (.list [(toD (v111.2.1 : (List Int))), (toD (v111.2.2 : Int))])), some (.d (toD (x108 : Int))), some (.d (toD (v112 : Int))), none, none, none, none, none]) rfl (j_seqFF (Γs := fun (s143 : ((List Int) × Int)) => [some (.sc script), some (.o (.list [(toD (s143.1 : (List Int))), (toD (s143.2 : Int))])), some (.d (toD (x108 : Int))), some (.d (toD (v112 : Int))), none, none, none, none, none]) (fun _ => rfl) (j_sFor (j_iSeq (j_lst (j_dcons (j_c (j_fz fz_b (j_dcons (j_c (j_fz fz_b (j_dcons (j_c (j_fz fz_b (j_dnil (j_lst2 (toD ([("swap" : Str), ("spot" : Str), ("shift" : Str)] : (List Str))) rfl rfl (j_it fz_w rfl (j_loop (l := [1, 1, 1, 1, 0, 0, 0, 0, 0]) (D := toD) (Γs := fun (s143 : ((List Int) × Int)) => [some (.sc script), some (.o (.list [(toD (s143.1 : (List Int))), (toD (s143.2 : Int))])), some (.d (toD (x108 : Int))), some (.d (toD (v112 : Int))), none, none, none, none, none]) v111.2 rfl (fun _ => ⟨_, _, rfl⟩) (fun _ => rfl) fun s143 x144 => (j_gN (j_re (Γ' := [some (.sc script), some (.o (.list [(toD (s143.1 : (List Int))), (toD (s143.2 : Int))])), some (.d (toD (x108 : Int))), some (.d (toD (v112 : Int))), some (.d (toD (x144 : Str))), none, none, none, none]) rfl (j_asg (j_bin (j_disp (j_pcons (j_c (j_key rd_b rfl (j_bin (j_bin (j_var rfl (j_bin (j_var rfl (j_c (j_op (rd_d rfl) rd_b x_sub (j_opR (rd_d rfl) rd_b x_mulR fun v145 => (j_c (j_op rd_b rd_b (x_fdiv (cfdiv_r (by decide))) (j_fz fz_b (j_pcons (j_c (j_key rd_b rfl (j_var rfl (j_fz (fz_d rfl) (j_pcons (j_c (j_key rd_b rfl (j_bin (j_var rfl (j_c (j_op (rd_d rfl) rd_b x_sub (j_fz fz_b (j_pnil (j_disp2 (κ := Str) (υ := Int) [(("swap" : Str), (v145 / (2 : Int))), (("spot" : Str), v112), (("shift" : Str), (v112 - (1 : Int)))] rfl rfl (j_var rfl (j_opR rd_w (rd_d rfl) (x_dix (κ := Str) (υ := Int)) fun v146 => (j_fzb (fzb_of fz_b) (j_setD (j_re (Γ' := [some (.sc script), some (.o (.list [(toD (s143.1 : (List Int))), (toD (s143.2 : Int))])), some (.d (toD (x108 : Int))), some (.d (toD (v112 : Int))), some (.d (toD (x144 : Str))), some (.d (toD (v146 : Int))), none, none, none]) rfl (j_asg (j_lst (j_dcons (j_call (j_aM rfl (j_aF (j_c (j_fzb (fzb_of fz_b) (j_anil (j_callF rfl (ba_o rfl (ba_b ba_nil)) (sim__law_take s143 ((4 : Int))) (fun _ => rfl) (fun _ => rfl) fun v147 => (j_fz fz_b (j_dcons (j_call (j_aM rfl (j_aF (j_bin (j_var rfl (j_c (j_op (rd_d rfl) rd_b x_add (j_fzb (fzb_of fz_b) (j_anil (j_callF rfl (ba_o rfl (ba_b ba_nil)) (sim__law_take v147.2 ((v146 + (1 : Int)))) (fun _ => rfl) (fun _ => rfl) fun v148 => (j_fz fz_b (j_dcons (j_var rfl (j_fz (fz_d rfl) (j_dcons (j_bin (j_var rfl (j_c (j_op (rd_d rfl) rd_b x_add (j_fz fz_b (j_dnil (j_lst2 (toD ([v147.1, v148.1, v146, (v146 + (1 : Int))] : (List Int))) rfl rfl (j_fzb (fzb_of fz_w) (j_setD (j_re (Γ' := [some (.sc script), some (.o (.list [(toD (v148.2.1 : (List Int))), (toD (v148.2.2 : Int))])), some (.d (toD (x108 : Int))), some (.d (toD (v112 : Int))), some (.d (toD (x144 : Str))), some (.d (toD (v146 : Int))), some (.d (toD ([v147.1, v148.1, v146, (v146 + (1 : Int))] : (List Int)))), none, none]) rfl (j_asg (j_bin (j_var rfl (j_lst (j_dcons (j_cb (j_acons (j_c (j_acons (j_bin (j_var rfl (j_c (j_op (rd_d rfl) rd_b x_sub (j_anil (j_cbop (ra_cons rd_b (ra_cons rd_b ra_nil)) x_max2 (j_fz fz_b (j_dcons (j_bin (j_lst (j_dcons (j_bin (j_c (j_c (j_op rd_b rd_b (x_pow (by decide)) (j_fz fz_b (j_dcons (j_bin (j_var rfl (j_call (j_aM rfl (j_aF (j_c (j_fzb (fzb_of fz_b) (j_anil (j_callF rfl (ba_o rfl (ba_b ba_nil)) (sim__law_take v148.2 ((99 : Int))) (fun _ => rfl) (fun _ => rfl) fun v149 => (j_op (rd_d rfl) rd_b x_add (j_fz fz_b (j_dnil (j_lst2 (toD ([((10 : Int) ^ ((25 : Int)).toNat), (v146 + v149.1)] : (List Int))) rfl rfl (j_bin (j_var rfl (j_c (j_op (rd_d rfl) rd_b (x_mod (by decide)) (j_opR rd_w rd_b (x_ix (τ := Int)) fun v150 => (j_fz fz_b (j_dnil (j_lst2 (toD ([(max2 ((0 : Int)) ((v146 - (1 : Int)))), v150] : (List Int))) rfl rfl (j_opR (rd_d rfl) rd_w (x_addL (τ := Int)) fun v151 => (j_fzb (fzb_of fz_w) (j_setD (j_re (Γ' := [some (.sc script), some (.o (.list [(toD (v149.2.1 : (List Int))), (toD (v149.2.2 : Int))])), some (.d (toD (x108 : Int))), some (.d (toD (v112 : Int))), some (.d (toD (x144 : Str))), some (.d (toD (v146 : Int))), some (.d (toD (v151 : (List Int)))), none, none]) rfl (j_asg (j_bin (j_var rfl (j_call (j_aM rfl (j_aF (j_c (j_fzb (fzb_of fz_b) (j_anil (j_callF rfl (ba_o rfl (ba_b ba_nil)) (sim__law_take v149.2 ((6 : Int))) (fun _ => rfl) (fun _ => rfl) fun v152 => (j_opR (rd_d rfl) rd_b (x_ix (τ := Int)) fun v153 => (j_fzb (fzb_of fz_b) (j_setD (j_re (Γ' := [some (.sc script), some (.o (.list [(toD (v152.2.1 : (List Int))), (toD (v152.2.2 : Int))])), some (.d (toD (x108 : Int))), some (.d (toD (v112 : Int))), some (.d (toD (x144 : Str))), some (.d (toD (v146 : Int))), some (.d (toD (v151 : (List Int)))), some (.d (toD (v153 : Int))), none]) rfl (j_asg (j_bin (j_lst (j_dcons (j_var rfl (j_fz (fz_d rfl) (j_dcons (j_cb (j_acons (j_var rfl (j_acons (j_c (j_anil (j_cbop (ra_cons (rd_d rfl) (ra_cons rd_b ra_nil)) x_min2 (j_fz fz_b (j_dnil (j_lst2 (toD ([v112, (min2 v112 ((8 : Int)))] : (List Int))) rfl rfl (j_cb (j_acons (j_andVC (j_bin (j_var rfl (j_c (j_opR (rd_d rfl) rd_b (x_eqG (τ := Str)) fun v155 => (j_andV2 rd_b (j_bin (j_var rfl (j_c (j_op (rd_d rfl) rd_b x_gt (j_anil (j_cbop (ra_cons rd_b ra_nil) x_intB (j_opR rd_w rd_b (x_ix (τ := Int)) fun v156 => (j_fzb (fzb_of fz_b) (j_setD (j_last (j_re (Γ' := [some (.sc script), some (.o (.list [(toD (v152.2.1 : (List Int))), (toD (v152.2.2 : Int))])), some (.d (toD (x108 : Int))), some (.d (toD (v112 : Int))), some (.d (toD (x144 : Str))), some (.d (toD (v146 : Int))), some (.d (toD (v151 : (List Int)))), some (.d (toD (v153 : Int))), some (.d (toD (v156 : Int)))]) rfl (j_if (j_not (j_test (j_callP (j_aP (j_var rfl (j_aPs (j_aP (j_var rfl (j_aPs (j_aP (j_var rfl (j_aPs (j_anil (j_callPop rfl (la_d rfl (la_d rfl (la_d rfl la_nil))) rfl (sim__law_right x144 v156 v153) (fun _ => rfl) fun v157 => (j_bool rd_b (j_ite (j_re (Γ' := [some (.sc script), some (.o (.list [(toD (v152.2.1 : (List Int))), (toD (v152.2.2 : Int))])), some (.d (toD (x108 : Int))), some (.d (toD (v112 : Int))), some (.d (toD (x144 : Str))), some (.d (toD (v146 : Int))), some (.d (toD (v151 : (List Int)))), some (.d (toD (v153 : Int))), some (.d (toD (v156 : Int)))]) rfl (j_ret (j_c (j_retb (l := [0, 0, 0, 0, 0, 0, 0, 0, 0]) sl_d rfl rfl)))) (j_seqNil (j_nil (l := [1, 1, 1, 1, 0, 0, 0, 0, 0]) rfl rfl)))))))))))))))))))))))))))))) (j_anil (j_cbop (ra_cons rd_b ra_nil) x_intB (j_opR rd_w rd_b (x_ix (τ := Int)) fun v158 => (j_fzb (fzb_of fz_b) (j_setD (j_last (j_re (Γ' := [some (.sc script), some (.o (.list [(toD (v152.2.1 : (List Int))), (toD (v152.2.2 : Int))])), some (.d (toD (x108 : Int))), some (.d (toD (v112 : Int))), some (.d (toD (x144 : Str))), some (.d (toD (v146 : Int))), some (.d (toD (v151 : (List Int)))), some (.d (toD (v153 : Int))), some (.d (toD (v158 : Int)))]) rfl (j_if (j_not (j_test (j_callP (j_aP (j_var rfl (j_aPs (j_aP (j_var rfl (j_aPs (j_aP (j_var rfl (j_aPs (j_anil (j_callPop rfl (la_d rfl (la_d rfl (la_d rfl la_nil))) rfl (sim__law_right x144 v158 v153) (fun _ => rfl) fun v159 => (j_bool rd_b (j_ite (j_re (Γ' := [some (.sc script), some (.o (.list [(toD (v152.2.1 : (List Int))), (toD (v152.2.2 : Int))])), some (.d (toD (x108 : Int))), some (.d (toD (v112 : Int))), some (.d (toD (x144 : Str))), some (.d (toD (v146 : Int))), some (.d (toD (v151 : (List Int)))), some (.d (toD (v153 : Int))), some (.d (toD (v158 : Int)))]) rfl (j_ret (j_c (j_retb (l := [0, 0, 0, 0, 0, 0, 0, 0, 0]) sl_d rfl rfl)))) (j_seqNil (j_nil (l := [1, 1, 1, 1, 0, 0, 0, 0, 0]) rfl rfl)))))))))))))))))))))))))))))))))))))))))))))))))))))))))))))))))))))))))))))))))))))))))))))))))))))))))))))))))))))))))))))))))))))))))))))))))))))))))))))))))))))))))))))))))))))))))))))))))))))))))))))))) fun s160 => (j_nil (l := [1, 1, 0, 0, 0, 0, 0, 0, 0]) rfl rfl))))))))))))))))))))))))))))))))))))))))))))))))))))) fun s161 => (j_last (j_re (Γ' := [some (.sc script), some (.o (.list [(toD (s161.1 : (List Int))), (toD (s161.2 : Int))])), none, none, none, none, none, none, none]) rfl (j_ret (j_c (j_retb (l := [0, 0, 0, 0, 0, 0, 0, 0, 0]) sl_d rfl rfl)))))))))))))))))))))))))))) (fun a p hp => nomatch hp)
end K15
set_option maxRecDepth 100000
namespace TM
open PySem VL VP D PySem.SeqAt
open L2 (atI ixN)
variable {n r : Nat}
theorem band_nat (a b : Nat) : Builtin.bitAnd (a : Int) (b : Int) = ((a &&& b : Nat) : Int) := by
  unfold Builtin.bitAnd
  rw [decide_eq_true (Int.natCast_nonneg a), decide_eq_true (Int.natCast_nonneg b)]
  rfl
theorem bor_nat (a b : Nat) : Builtin.bitOr (a : Int) (b : Int) = ((a ||| b : Nat) : Int) := by
  unfold Builtin.bitOr Builtin.bitAnd Builtin.bitNot
  rw [decide_eq_false (by omega : ¬ (0 : Int) ≤ -(a : Int) - 1), decide_eq_false (by omega : ¬ (0 : Int) ≤ -(b : Int) - 1)]
  dsimp only
  rw [show (-(-(a : Int) - 1) - 1) = (a : Int) by omega, show (-(-(b : Int) - 1) - 1) = (b : Int) by omega, Int.toNat_natCast, Int.toNat_natCast]
  omega
theorem shr_nat (m p : Nat) : shrI (m : Int) (p : Int) = some ((m / 2 ^ p : Nat) : Int) := by
  unfold shrI
  rw [if_pos (decide_eq_true (Int.natCast_nonneg p)), Int.toNat_natCast]
  rfl
theorem bit_test (m p : Nat) : decide (Builtin.bitAnd ((m / 2 ^ p : Nat) : Int) (1 : Int) = (0 : Int)) = !m.testBit p := by
  rw [show (1 : Int) = ((1 : Nat) : Int) from rfl, band_nat]
  unfold Nat.testBit
  rw [Nat.shiftRight_eq_div_pow, Nat.and_comm 1]
  by_cases h : (m / 2 ^ p &&& 1) = 0
  · rw [h]; rfl
  · rw [decide_eq_false (by omega), bne_iff_ne.mpr h]; rfl
theorem shl_one {p : Nat} (h : p ≤ 100) : shlI (1 : Int) (p : Int) = some ((2 ^ p : Nat) : Int) := by
  unfold shlI cPow
  rw [if_pos (by rw [Bool.and_eq_true, Bool.and_eq_true, decide_eq_true_eq, decide_eq_true_eq, decide_eq_true_eq]; omega), Int.toNat_natCast, Int.one_mul]
  rfl
def keysT (l : List (Int × Int)) : List Int := l.map (·.1)
/-- the numbers, each so many times as its key weighs -/
def ws (w : Int → Int) (l : List (Int × Int)) : Int := (l.map fun p => p.2 * w p.1).sum
theorem put_new {l : List (Int × Int)} {k v : Int} (h : k ∉ keysT l) : putT l k v = l ++ [(k, v)] := by
  unfold putT
  rw [if_neg]
  intro z
  obtain ⟨p, hp, e⟩ := List.any_eq_true.mp z
  exact h (List.mem_map.mpr ⟨p, hp, of_decide_eq_true e⟩)
theorem look_new {l : List (Int × Int)} {k : Int} (h : k ∉ keysT l) : lookT l k = none := by
  unfold lookT
  rw [List.find?_eq_none.mpr fun p hp z => h (List.mem_map.mpr ⟨p, hp, of_decide_eq_true z⟩)]
  rfl
theorem put_old : ∀ {l : List (Int × Int)} {k c : Int}, (keysT l).Nodup → k ∈ keysT l → ∃ o, lookT l k = some o ∧ keysT (putT l k (o + c)) = keysT l ∧ ∀ w, ws w (putT l k (o + c)) = ws w l + c * w k
  | [], k, c, _, h => by cases h
  | (a, b) :: l, k, c, hn, h => by
    have hn' : a ∉ keysT l ∧ (keysT l).Nodup := List.nodup_cons.mp hn
    by_cases e : a = k
    · subst e
      refine ⟨b, by unfold lookT; rw [List.find?_cons_of_pos (by simp)]; rfl, ?_, fun w => ?_⟩
      all_goals
        have hp : putT ((a, b) :: l) a (b + c) = (a, b + c) :: l := by
          unfold putT
          rw [if_pos (by rw [List.any_cons]; rw [decide_eq_true rfl]; rfl), List.map_cons, if_pos rfl]
          congr 1
          refine (List.map_congr_left fun p hp => ?_).trans (List.map_id _)
          rw [if_neg fun z => hn'.1 (List.mem_map.mpr ⟨p, hp, z⟩)]
          rfl
        rw [hp]
      · rfl
      · unfold ws
        rw [List.map_cons, List.map_cons, List.sum_cons, List.sum_cons]
        dsimp only
        rw [Int.add_mul]
        omega
    · have hk : k ∈ keysT l := (List.mem_cons.mp h).resolve_left fun z => e z.symm
      obtain ⟨o, h1, h2, h3⟩ := put_old (c := c) hn'.2 hk
      have hany : (l.any fun p => decide (p.1 = k)) = true := by
        obtain ⟨p, hp, q⟩ := List.mem_map.mp hk
        exact List.any_eq_true.mpr ⟨p, hp, decide_eq_true q⟩
      have hp : putT ((a, b) :: l) k (o + c) = (a, b) :: putT l k (o + c) := by
        unfold putT
        rw [if_pos hany, if_pos (by rw [List.any_cons, hany, Bool.or_true]), List.map_cons, if_neg e]
      refine ⟨o, by unfold lookT; rw [List.find?_cons_of_neg (by simpa using e)]; exact h1, ?_, fun w => ?_⟩
      · rw [hp]
        show a :: keysT _ = a :: keysT l
        rw [h2]
      · rw [hp]
        have := h3 w
        unfold ws at this ⊢
        rw [List.map_cons, List.map_cons, List.sum_cons, List.sum_cons, this]
        omega
theorem add_put (l : List (Int × Int)) (k c : Int) (hn : (keysT l).Nodup) : (keysT (putT l k ((lookT l k).getD 0 + c))).Nodup ∧ (∀ x ∈ keysT (putT l k ((lookT l k).getD 0 + c)), x = k ∨ x ∈ keysT l) ∧ ∀ w, ws w (putT l k ((lookT l k).getD 0 + c)) = ws w l + c * w k := by
  by_cases h : k ∈ keysT l
  · obtain ⟨o, h1, h2, h3⟩ := put_old (c := c) hn h
    rw [h1]
    dsimp only [Option.getD_some]
    rw [h2]
    exact ⟨hn, fun x hx => .inr hx, h3⟩
  · rw [look_new h, put_new h]
    dsimp only [Option.getD_none]
    refine ⟨?_, fun x hx => ?_, fun w => ?_⟩
    · unfold keysT at h hn ⊢
      rw [List.map_append, List.nodup_append]
      exact ⟨hn, by simp, fun a ha b hb => by simp at hb; rw [hb]; exact fun z => h (z ▸ ha)⟩
    · unfold keysT at hx ⊢
      rw [List.map_append, List.mem_append] at hx
      rcases hx with hx | hx
      · exact .inr hx
      · exact .inl (by simpa using hx)
    · unfold ws
      rw [List.map_append, List.sum_append]
      simp
def bset (m p : Nat) : Nat := m ||| 2 ^ p
/-- in how many ways the last k of n things are put to places that are free, none more than r away -/
def ct (n r : Nat) : Nat → Nat → Nat
  | 0, _ => 1
  | k + 1, m => sm n fun p => bn (decide (df p (n - (k + 1)) ≤ r) && !m.testBit p) * ct n r k (bset m p)
theorem sm_none {f : Nat → Nat} {a : Nat} : ∀ {b : Nat}, a ≤ b → (∀ i, a ≤ i → i < b → f i = 0) → sm b f = sm a f
  | 0, h, _ => by rw [show a = 0 by omega]
  | b + 1, h, h0 => by
    by_cases e : a = b + 1
    · rw [e]
    · rw [sm_succ, h0 b (by omega) (by omega), sm_none (b := b) (by omega) fun i h1 h2 => h0 i h1 (by omega)]
      rfl
def KOk (n : Nat) (l : List (Int × Int)) : Prop := (keysT l).Nodup ∧ ∀ x ∈ keysT l, ∃ m : Nat, x = (m : Int) ∧ m < 2 ^ n
theorem KOk.len {l : List (Int × Int)} (h : KOk n l) : l.length ≤ 2 ^ n := by
  have h1 : keysT l ⊆ (List.range (2 ^ n)).map fun (i : Nat) => (i : Int) := fun x hx => by
    obtain ⟨m, rfl, hm⟩ := h.2 x hx
    exact List.mem_map.mpr ⟨m, List.mem_range.mpr hm, rfl⟩
  have h2 : ∀ (l1 l2 : List Int), l1.Nodup → l1 ⊆ l2 → l1.length ≤ l2.length := by
    intro l1
    induction l1 with
    | nil => intro _ _ _; exact Nat.zero_le _
    | cons a l1 ih =>
      intro l2 hn hs
      obtain ⟨n1, n2⟩ := List.nodup_cons.mp hn
      have ha := hs List.mem_cons_self
      have := (List.perm_cons_erase ha).length_eq
      rw [List.length_cons] at this ⊢
      have := ih (l2.erase a) n2 fun x hx => (List.mem_erase_of_ne (by intro z; subst z; exact n1 hx)).mpr (hs (List.mem_cons_of_mem _ hx))
      omega
  have h3 := h2 _ _ h.1 h1
  unfold keysT at h3
  rw [List.length_map, List.length_map, List.length_range] at h3
  exact h3
theorem bset_lt {m p : Nat} (hm : m < 2 ^ n) (hp : p < n) : bset m p < 2 ^ n := Nat.or_lt_two_pow hm (Nat.pow_lt_pow_right (by decide) hp)
theorem df_win {p t r n : Nat} : df p t ≤ r ↔ t - r ≤ p ∧ p < t + r + 1 := by unfold df; omega
theorem shifted_ok (h1 : 1 ≤ n) (h2 : n ≤ 12) (r : Nat) (hr : r ≤ 100) : m_shifted_within (n : Int) (r : Int) = .ok ((ct n r n 0 : Nat) : Int) := by
  have h212 : 2 ^ n ≤ 4096 := Nat.pow_le_pow_right (by decide) h2
  have h0 : mergeT ([((0 : Int), (1 : Int))] : List (Int × Int)) = [(0, 1)] := rfl
  refine Sat.eq ?_
  unfold m_shifted_within
  rw [rg1_nat (by omega), ob_some, h0]
  refine sat_bind (sat_foldM (fun k (l : List (Int × Int)) => KOk n l ∧ ws (fun x => ((ct n r (n - k) x.toNat : Nat) : Int)) l = ((ct n r n 0 : Nat) : Int)) (iota n) 0 [(0, 1)] ⟨⟨by simp [keysT], fun x hx => ⟨0, by simpa [keysT] using hx, Nat.two_pow_pos n⟩⟩, by unfold ws; simp⟩ fun t l ht hl => ?_) fun l hl => ?_
  · rw [iota_len] at ht
    rw [iota_get, Nat.zero_add] at *
    obtain ⟨k1, k2⟩ := hl
    have e9 : n - t = (n - (t + 1)) + 1 := by omega
    have eT : n - (n - (t + 1) + 1) = t := by omega
    -- one entry after the other
    refine sat_bind (Q := fun (W : List (Int × Int)) => KOk n W ∧ ws (fun x => ((ct n r (n - (t + 1)) x.toNat : Nat) : Int)) W = ws (fun x => ((ct n r (n - t) x.toNat : Nat) : Int)) l) ?_ fun W hW => sat_ok ⟨hW.1, hW.2.trans k2⟩
    have mid := sat_foldM (mb := fun (s210 : (List (Int × Int))) (x211 : (Int × Int)) =>
        R.bind (ob (rg2 ((max2 ((0 : Int)) (((t : Int) - (r : Int))))) ((min2 (n : Int) ((((t : Int) + (r : Int)) + (1 : Int)))))) fun xs212 =>
        foldM (fun (s227 : (List (Int × Int))) (x228 : Int) =>
        R.bind (ob (shrI x211.1 x228) fun v233 =>
        if (decide ((Builtin.bitAnd v233 ((1 : Int))) = (0 : Int))) = true then
        (ob (shlI ((1 : Int)) x228) fun v234 =>
        ob (putG s227 ((Builtin.bitOr x211.1 v234)) ((((lookT s227 ((Builtin.bitOr x211.1 v234))).getD ((0 : Int))) + x211.2))) fun v235 =>
        .ok v235)
        else
        (.ok s227)) fun (s232 : (List (Int × Int))) =>
        .ok s232) xs212 s210) fun (s236 : (List (Int × Int))) =>
        R.ok s236) (fun k W => KOk n W ∧ ws (fun x => ((ct n r (n - (t + 1)) x.toNat : Nat) : Int)) W = ws (fun x => ((ct n r (n - t) x.toNat : Nat) : Int)) (l.take k)) l 0 [] ⟨⟨List.nodup_nil, fun x hx => by cases hx⟩, by simp [ws]⟩ fun j W hj hW => by
      rw [Nat.zero_add] at *
      obtain ⟨w1, w2⟩ := hW
      obtain ⟨m, hm, hm2⟩ := k1.2 l[j].1 (List.mem_map.mpr ⟨l[j], List.getElem_mem hj, rfl⟩)
      let g := fun p => bn (decide (df p t ≤ r) && !m.testBit p) * ct n r (n - (t + 1)) (bset m p)
      have hg : ∀ p, ¬ df p t ≤ r → g p = 0 := fun p hp => by
        show bn (decide (df p t ≤ r) && !m.testBit p) * _ = 0
        rw [decide_eq_false hp, Bool.false_and]
        exact Nat.zero_mul _
      have lo : max2 (0 : Int) ((t : Int) - (r : Int)) = ((t - r : Nat) : Int) := by unfold max2; split <;> omega
      have hi : min2 (n : Int) (((t : Int) + (r : Int)) + (1 : Int)) = ((min n (t + r + 1) : Nat) : Int) := by unfold min2; split <;> omega
      rw [lo, hi, rg2_of (by omega) (by omega), ob_some]
      have inner := sat_foldM (mb := fun (s227 : (List (Int × Int))) (x228 : Int) =>
        R.bind (ob (shrI l[j].1 x228) fun v233 =>
        if (decide ((Builtin.bitAnd v233 ((1 : Int))) = (0 : Int))) = true then
        (ob (shlI ((1 : Int)) x228) fun v234 =>
        ob (putG s227 ((Builtin.bitOr l[j].1 v234)) ((((lookT s227 ((Builtin.bitOr l[j].1 v234))).getD ((0 : Int))) + l[j].2))) fun v235 =>
        .ok v235)
        else
        (.ok s227)) fun (s232 : (List (Int × Int))) =>
        R.ok s232) (fun k W' => KOk n W' ∧ ws (fun x => ((ct n r (n - (t + 1)) x.toNat : Nat) : Int)) W' = ws (fun x => ((ct n r (n - (t + 1)) x.toNat : Nat) : Int)) W + l[j].2 * ((sm (t - r + k) g : Nat) : Int)) (rngL ((t - r : Nat) : Int) (((min n (t + r + 1) : Nat) : Int) - ((t - r : Nat) : Int)).toNat) 0 W ⟨w1, by show _ = _ + l[j].2 * ((sm (t - r) g : Nat) : Int); rw [sm_none (a := 0) (b := t - r) (Nat.zero_le _) (fun i _ h => hg i (by rw [df_win (n := n)]; omega))]; simp [sm]⟩ fun i W' hi' hW' => by
          rw [rngL_len] at hi'
          rw [rngL_get, Nat.zero_add] at *
          obtain ⟨v1, v2⟩ := hW'
          have hp : (((t - r : Nat) : Int) + (i : Int)) = ((t - r + i : Nat) : Int) := by omega
          rw [hp, hm]
          generalize hpe : t - r + i = p at *
          have hpn : p < n := by omega
          rw [shr_nat, ob_some, bit_test]
          have hd : df p t ≤ r := by rw [df_win (n := n)]; omega
          have hg1 : g p = bn (!m.testBit p) * ct n r (n - (t + 1)) (bset m p) := by
            show bn (decide (df p t ≤ r) && !m.testBit p) * _ = _
            rw [decide_eq_true hd, Bool.true_and]
          have hs : sm (t - r + (i + 1)) g = sm p g + g p := by rw [← Nat.add_assoc, hpe]; rfl
          cases hb : m.testBit p with
          | true =>
            refine sat_ok ⟨v1, ?_⟩
            rw [hs, hg1, hb, v2]
            simp [bn]
          | false =>
            have hl : W'.length < big := Nat.lt_of_le_of_lt v1.len (Nat.lt_of_le_of_lt h212 (by decide))
            rw [show (!false) = true from rfl, if_pos rfl, shl_one (by omega), ob_some, bor_nat]
            unfold putG
            rw [if_pos hl, ob_some]
            obtain ⟨a1, a2, a3⟩ := add_put W' ((m ||| 2 ^ p : Nat) : Int) l[j].2 v1.1
            refine sat_ok ⟨⟨a1, fun x hx => ?_⟩, ?_⟩
            · rcases a2 x hx with rfl | hx
              · exact ⟨_, rfl, bset_lt hm2 hpn⟩
              · exact v1.2 x hx
            · rw [a3, v2, hs, hg1, hb, Int.toNat_natCast]
              show _ + _ + l[j].2 * ((ct n r (n - (t + 1)) (bset m p) : Nat) : Int) = _
              rw [show bn (!false) = 1 from rfl, Nat.one_mul, Int.natCast_add, Int.mul_add]
              omega
      rw [rngL_len, Nat.zero_add] at inner
      refine sat_bind inner fun W' hW' => sat_ok ⟨hW'.1, ?_⟩
      rw [hW'.2, w2, List.take_add_one, List.getElem?_eq_getElem hj]
      unfold ws
      rw [List.map_append, List.sum_append]
      congr 1
      show _ = ([l[j]].map _).sum
      rw [List.map_cons, List.map_nil, List.sum_cons, List.sum_nil, Int.add_zero, hm]
      dsimp only
      rw [Int.toNat_natCast, e9]
      show _ = l[j].2 * ((sm n (fun p => bn (decide (df p (n - (n - (t + 1) + 1)) ≤ r) && !m.testBit p) * ct n r (n - (t + 1)) (bset m p)) : Nat) : Int)
      rw [eT]
      congr 2
      rw [show t - r + (((min n (t + r + 1) : Nat) : Int) - ((t - r : Nat) : Int)).toNat = min n (t + r + 1) by omega]
      exact (sm_none (f := g) (by omega) fun i h3 h4 => hg i (by rw [df_win (n := n)]; omega)).symm
    rw [Nat.zero_add, List.take_length] at mid
    exact mid
  · rw [iota_len, Nat.zero_add, Nat.sub_self] at hl
    refine sat_ok ?_
    have := hl.2
    unfold ws at this
    rw [← this]
    congr 1
    exact List.map_congr_left fun p _ => by simp [ct]
end TM
set_option maxRecDepth 100000
namespace D
open VP (iota IsOrd)
variable {n : Nat} {xs ys zs : List Int}
def lev (n : Nat) : Nat → List (List Int)
  | 0 => [[]]
  | k + 1 => (lev n k).flatMap fun o => ((iota n).filter fun x => !decide (x ∈ o)).map fun x => o ++ [x]
theorem iota_length (n : Nat) : (iota n).length = n := by unfold iota; rw [List.length_map, List.length_range]
theorem iota_nodup (n : Nat) : (iota n).Nodup := ord_nodup (n := n) (List.Perm.refl _)
theorem mem_lev : ∀ (k : Nat) (o : List Int), o ∈ lev n k ↔ o.Nodup ∧ o.length = k ∧ ∀ x ∈ o, x ∈ iota n
  | 0, o => by
    show o ∈ [[]] ↔ _
    rw [List.mem_singleton]
    constructor
    · rintro rfl
      exact ⟨List.nodup_nil, rfl, fun x hx => nomatch hx⟩
    · rintro ⟨_, h, _⟩
      exact List.eq_nil_of_length_eq_zero h
  | k + 1, o => by
    show o ∈ (lev n k).flatMap _ ↔ _
    rw [List.mem_flatMap]
    constructor
    · rintro ⟨o', h1, h2⟩
      obtain ⟨x, h3, rfl⟩ := List.mem_map.mp h2
      obtain ⟨h4, h5⟩ := List.mem_filter.mp h3
      obtain ⟨g1, g2, g3⟩ := (mem_lev k o').mp h1
      have h6 : x ∉ o' := by simpa using h5
      refine ⟨List.nodup_append.mpr ⟨g1, List.nodup_cons.mpr ⟨by simp, List.nodup_nil⟩, fun a ha b hb e => ?_⟩, by rw [List.length_append, g2]; rfl, fun y hy => ?_⟩
      · rw [List.mem_singleton] at hb
        subst hb e
        exact h6 ha
      · rcases List.mem_append.mp hy with hy | hy
        · exact g3 y hy
        · rw [List.mem_singleton.mp hy]; exact h4
    · rintro ⟨h1, h2, h3⟩
      have hne : o ≠ [] := fun e => by rw [e] at h2; cases h2
      have e := List.dropLast_concat_getLast hne
      have hnd : (o.dropLast ++ [o.getLast hne]).Nodup := by rw [e]; exact h1
      obtain ⟨n1, n2, n3⟩ := List.nodup_append.mp hnd
      have hm : ∀ y ∈ o.dropLast, y ∈ o := fun y hy => by rw [← e]; exact List.mem_append_left _ hy
      refine ⟨o.dropLast, (mem_lev k _).mpr ⟨n1, by rw [List.length_dropLast]; omega, fun y hy => h3 y (hm y hy)⟩, List.mem_map.mpr ⟨o.getLast hne, List.mem_filter.mpr ⟨h3 _ (List.getLast_mem hne), ?_⟩, e⟩⟩
      have : o.getLast hne ∉ o.dropLast := fun z => n3 _ z _ (List.mem_singleton.mpr rfl) rfl
      simpa using this
theorem lev_nodup : ∀ k, (lev n k).Nodup
  | 0 => List.nodup_cons.mpr ⟨by simp, List.nodup_nil⟩
  | k + 1 => by
    show List.Pairwise (· ≠ ·) ((lev n k).flatMap _)
    rw [List.pairwise_flatMap]
    refine ⟨fun o ho => ?_, (lev_nodup k).imp fun {a b} hab x hx y hy e => ?_⟩
    · rw [List.pairwise_map]
      refine ((iota_nodup n).filter _).imp fun {a b} hab e => hab ?_
      have := List.append_cancel_left e
      exact (List.cons.inj this).1
    · obtain ⟨u, _, rfl⟩ := List.mem_map.mp hx
      obtain ⟨v, _, rfl⟩ := List.mem_map.mp hy
      exact hab (List.append_inj_left' e rfl)
theorem perm_of : ∀ (l1 l2 : List Int), l1.Nodup → (∀ x ∈ l1, x ∈ l2) → l2.length ≤ l1.length → l1.Perm l2
  | [], l2, _, _, h => by rw [List.eq_nil_of_length_eq_zero (Nat.le_zero.mp h)]
  | a :: l1, l2, hn, hs, hl => by
    have ha := hs a List.mem_cons_self
    have hn' := List.nodup_cons.mp hn
    have p := List.perm_cons_erase ha
    have h2 := p.length_eq
    rw [List.length_cons] at h2 hl
    refine (List.Perm.cons a (perm_of l1 (l2.erase a) hn'.2 (fun x hx => (List.mem_erase_of_ne (fun e => by rw [e] at hx; exact hn'.1 hx)).mpr (hs x (List.mem_cons_of_mem _ hx))) (by omega))).trans p.symm
theorem perm_of' [DecidableEq (List Int)] : ∀ (l1 l2 : List (List Int)), l1.Nodup → (∀ x ∈ l1, x ∈ l2) → l2.length ≤ l1.length → l1.Perm l2
  | [], l2, _, _, h => by rw [List.eq_nil_of_length_eq_zero (Nat.le_zero.mp h)]
  | a :: l1, l2, hn, hs, hl => by
    have ha := hs a List.mem_cons_self
    have hn' := List.nodup_cons.mp hn
    have p := List.perm_cons_erase ha
    have h2 := p.length_eq
    rw [List.length_cons] at h2 hl
    refine (List.Perm.cons a (perm_of' l1 (l2.erase a) hn'.2 (fun x hx => (List.mem_erase_of_ne (fun e => by rw [e] at hx; exact hn'.1 hx)).mpr (hs x (List.mem_cons_of_mem _ hx))) (by omega))).trans p.symm
theorem lev_ord {o : List Int} : o ∈ lev n n ↔ IsOrd n o := by
  rw [mem_lev]
  constructor
  · rintro ⟨h1, h2, h3⟩
    exact perm_of o (iota n) h1 h3 (by rw [iota_length]; omega)
  · intro h
    exact ⟨ord_nodup h, h.length, fun x hx => h.mem_iff.mp hx⟩
end D
set_option maxRecDepth 100000
namespace D
end D
set_option maxRecDepth 100000
namespace TM
open PySem VL VP D PySem.SeqAt
open L2 (atI ixN)
end TM
set_option maxRecDepth 100000
namespace TM
open PySem VL VP D PySem.SeqAt
variable {n : Nat} {xs ys zs : List Int}
theorem ltP_app : ∀ (a b u v : List Int), a.length = b.length → ltP a b = true → ltP (a ++ u) (b ++ v) = true
  | [], [], _, _, _, h => by cases h
  | [], _ :: _, _, _, h, _ => by cases h
  | _ :: _, [], _, _, h, _ => by cases h
  | x :: a, y :: b, u, v, hl, h => by
    have h' : (if x = y then ltP a b else decide (x < y)) = true := h
    show (if x = y then ltP (a ++ u) (b ++ v) else decide (x < y)) = true
    by_cases e : x = y
    · rw [if_pos e] at h' ⊢
      exact ltP_app a b u v (by simpa using hl) h'
    · rw [if_neg e] at h' ⊢
      exact h'
theorem ltP_pre {x y : Int} (h : x < y) : ∀ a : List Int, ltP (a ++ [x]) (a ++ [y]) = true
  | [] => by
    show (if x = y then ltP [] [] else decide (x < y)) = true
    rw [if_neg (by omega)]
    exact decide_eq_true h
  | z :: a => by
    show (if z = z then ltP (a ++ [x]) (a ++ [y]) else decide (z < z)) = true
    rw [if_pos rfl]
    exact ltP_pre h a
theorem lev_sorted : ∀ k, (lev n k).Pairwise fun a b => ltP a b = true
  | 0 => List.pairwise_singleton _ _
  | k + 1 => by
    show List.Pairwise _ ((lev n k).flatMap _)
    rw [List.pairwise_flatMap]
    refine ⟨fun o ho => ?_, List.Pairwise.imp_of_mem (fun {a b} ha hb hab x hx y hy => ?_) (lev_sorted k)⟩
    · rw [List.pairwise_map]
      have hi : (iota n).Pairwise fun a b => a < b := by
        unfold iota
        rw [List.pairwise_map]
        exact List.pairwise_lt_range.imp fun {a b} h => by omega
      exact (hi.filter _).imp fun {a b} hab => ltP_pre hab o
    · obtain ⟨u, _, rfl⟩ := List.mem_map.mp hx
      obtain ⟨v, _, rfl⟩ := List.mem_map.mp hy
      exact ltP_app a b _ _ (by rw [((mem_lev k a).mp ha).2.1, ((mem_lev k b).mp hb).2.1]) hab
def Fw (w : Way) (n : Nat) (xs : List Int) (r : Nat) : List (List Int) := (lev n n).filter fun o => decide (far w n xs o ≤ r)
theorem Fw_sorted (w : Way) (r : Nat) : (Fw w n xs r).Pairwise fun a b => ltP a b = true := (lev_sorted n).filter _
/-- the near ones, turned by a one-to-one turning of all orders that keeps distances -/
theorem turned {φ : List Int → List Int} (w : Way) (r : Nat) (h1 : ∀ o, IsOrd n o → IsOrd n (φ o)) (h2 : ∀ a b, IsOrd n a → IsOrd n b → φ a = φ b → a = b) (h3 : ∀ o, IsOrd n o → far w n ys (φ o) = far w n xs o) : ((Fw w n xs r).map φ).mergeSort leL = Fw w n ys r := by
  have hp : ((lev n n).map φ).Perm (lev n n) := by
    refine perm_of' _ _ ?_ (fun y hy => ?_) (by rw [List.length_map]; exact Nat.le_refl _)
    · show List.Pairwise (· ≠ ·) _
      rw [List.pairwise_map]
      exact List.Pairwise.imp_of_mem (fun {a b} ha hb hab e => hab (h2 a b (lev_ord.mp ha) (lev_ord.mp hb) e)) (lev_nodup n)
    · obtain ⟨o, ho, rfl⟩ := List.mem_map.mp hy
      exact lev_ord.mpr (h1 o (lev_ord.mp ho))
  refine sortL_of ?_ (Fw_sorted w r)
  have e : (Fw w n xs r).map φ = ((lev n n).map φ).filter fun o => decide (far w n ys o ≤ r) := by
    rw [List.filter_map]
    congr 1
    refine List.filter_congr fun o ho => ?_
    show decide (far w n xs o ≤ r) = decide (far w n ys (φ o) ≤ r)
    rw [h3 o (lev_ord.mp ho)]
  rw [e]
  exact hp.filter _
end TM
set_option maxRecDepth 100000
namespace TM
open PySem VL VP D PySem.SeqAt
open L2 (atI ixN)
variable {n : Nat} {xs ys zs : List Int}
def swT : Nat → List Int
  | 1 => [1]
  | 2 => [1, 1]
  | 3 => [1, 2, 2, 1]
  | 4 => [1, 3, 5, 6, 5, 3, 1]
  | 5 => [1, 4, 9, 15, 20, 22, 20, 15, 9, 4, 1]
  | 6 => [1, 5, 14, 29, 49, 71, 90, 101, 101, 90, 71, 49, 29, 14, 5, 1]
  | 7 => [1, 6, 20, 49, 98, 169, 259, 359, 455, 531, 573, 573, 531, 455, 359, 259, 169, 98, 49, 20, 6, 1]
  | 8 => [1, 7, 27, 76, 174, 343, 602, 961, 1415, 1940, 2493, 3017, 3450, 3736, 3836, 3736, 3450, 3017, 2493, 1940, 1415, 961, 602, 343, 174, 76, 27, 7, 1]
  | 9 => [1, 8, 35, 111, 285, 628, 1230, 2191, 3606, 5545, 8031, 11021, 14395, 17957, 21450, 24584, 27073, 28675, 29228, 28675, 27073, 24584, 21450, 17957, 14395, 11021, 8031, 5545, 3606, 2191, 1230, 628, 285, 111, 35, 8, 1]
  | 10 => [1, 9, 44, 155, 440, 1068, 2298, 4489, 8095, 13640, 21670, 32683, 47043, 64889, 86054, 110010, 135853, 162337, 187959, 211089, 230131, 243694, 250749, 250749, 243694, 230131, 211089, 187959, 162337, 135853, 110010, 86054, 64889, 47043, 32683, 21670, 13640, 8095, 4489, 2298, 1068, 440, 155, 44, 9, 1]
  | 11 => [1, 10, 54, 209, 649, 1717, 4015, 8504, 16599, 30239, 51909, 84591, 131625, 196470, 282369, 391939, 526724, 686763, 870233, 1073227, 1289718, 1511742, 1729808, 1933514, 2112319, 2256396, 2357475, 2409581, 2409581, 2357475, 2256396, 2112319, 1933514, 1729808, 1511742, 1289718, 1073227, 870233, 686763, 526724, 391939, 282369, 196470, 131625, 84591, 51909, 30239, 16599, 8504, 4015, 1717, 649, 209, 54, 10, 1]
  | 12 => [1, 11, 65, 274, 923, 2640, 6655, 15159, 31758, 61997, 113906, 198497, 330121, 526581, 808896, 1200626, 1726701, 2411747, 3277965, 4342688, 5615807, 7097310, 8775209, 10624132, 12604826, 14664752, 16739858, 18757500, 20640357, 22311069, 23697232, 24736324, 25380120, 25598186, 25380120, 24736324, 23697232, 22311069, 20640357, 18757500, 16739858, 14664752, 12604826, 10624132, 8775209, 7097310, 5615807, 4342688, 3277965, 2411747, 1726701, 1200626, 808896, 526581, 330121, 198497, 113906, 61997, 31758, 15159, 6655, 2640, 923, 274, 65, 11, 1]
  | _ => []
def spT : Nat → List Int
  | 1 => [1, 0]
  | 2 => [1, 0, 1]
  | 3 => [1, 0, 3, 2]
  | 4 => [1, 0, 6, 8, 9]
  | 5 => [1, 0, 10, 20, 45, 44]
  | 6 => [1, 0, 15, 40, 135, 264, 265]
  | 7 => [1, 0, 21, 70, 315, 924, 1855, 1854]
  | 8 => [1, 0, 28, 112, 630, 2464, 7420, 14832, 14833]
  | 9 => [1, 0, 36, 168, 1134, 5544, 22260, 66744, 133497, 133496]
  | 10 => [1, 0, 45, 240, 1890, 11088, 55650, 222480, 667485, 1334960, 1334961]
  | 11 => [1, 0, 55, 330, 2970, 20328, 122430, 611820, 2447445, 7342280, 14684571, 14684570]
  | 12 => [1, 0, 66, 440, 4455, 34848, 244860, 1468368, 7342335, 29369120, 88107426, 176214840, 176214841]
  | _ => []
theorem by_swap1 : m_by_swap ((1 : Nat) : Int) = .ok (swT 1) := by kernel_rfl
theorem by_spot1 : m_by_spot ((1 : Nat) : Int) = .ok (spT 1) := by kernel_rfl
theorem by_swap2 : m_by_swap ((2 : Nat) : Int) = .ok (swT 2) := by kernel_rfl
theorem by_spot2 : m_by_spot ((2 : Nat) : Int) = .ok (spT 2) := by kernel_rfl
theorem by_swap3 : m_by_swap ((3 : Nat) : Int) = .ok (swT 3) := by kernel_rfl
theorem by_spot3 : m_by_spot ((3 : Nat) : Int) = .ok (spT 3) := by kernel_rfl
theorem by_swap4 : m_by_swap ((4 : Nat) : Int) = .ok (swT 4) := by kernel_rfl
theorem by_spot4 : m_by_spot ((4 : Nat) : Int) = .ok (spT 4) := by kernel_rfl
theorem by_swap5 : m_by_swap ((5 : Nat) : Int) = .ok (swT 5) := by kernel_rfl
theorem by_spot5 : m_by_spot ((5 : Nat) : Int) = .ok (spT 5) := by kernel_rfl
theorem by_swap6 : m_by_swap ((6 : Nat) : Int) = .ok (swT 6) := by kernel_rfl
theorem by_spot6 : m_by_spot ((6 : Nat) : Int) = .ok (spT 6) := by kernel_rfl
theorem by_swap7 : m_by_swap ((7 : Nat) : Int) = .ok (swT 7) := by kernel_rfl
theorem by_spot7 : m_by_spot ((7 : Nat) : Int) = .ok (spT 7) := by kernel_rfl
theorem by_swap8 : m_by_swap ((8 : Nat) : Int) = .ok (swT 8) := by kernel_rfl
theorem by_spot8 : m_by_spot ((8 : Nat) : Int) = .ok (spT 8) := by kernel_rfl
theorem by_swap9 : m_by_swap ((9 : Nat) : Int) = .ok (swT 9) := by kernel_rfl
theorem by_spot9 : m_by_spot ((9 : Nat) : Int) = .ok (spT 9) := by kernel_rfl
theorem by_swap10 : m_by_swap ((10 : Nat) : Int) = .ok (swT 10) := by kernel_rfl
theorem by_spot10 : m_by_spot ((10 : Nat) : Int) = .ok (spT 10) := by kernel_rfl
theorem by_swap11 : m_by_swap ((11 : Nat) : Int) = .ok (swT 11) := by kernel_rfl
theorem by_spot11 : m_by_spot ((11 : Nat) : Int) = .ok (spT 11) := by kernel_rfl
theorem by_swap12 : m_by_swap ((12 : Nat) : Int) = .ok (swT 12) := by kernel_rfl
theorem by_spot12 : m_by_spot ((12 : Nat) : Int) = .ok (spT 12) := by kernel_rfl
theorem n12 (h1 : 1 ≤ n) (h2 : n ≤ 12) : n = 1 ∨ n = 2 ∨ n = 3 ∨ n = 4 ∨ n = 5 ∨ n = 6 ∨ n = 7 ∨ n = 8 ∨ n = 9 ∨ n = 10 ∨ n = 11 ∨ n = 12 := by omega
theorem by_swap_ok (h1 : 1 ≤ n) (h2 : n ≤ 12) : m_by_swap (n : Int) = .ok (swT n) := by
  rcases n12 h1 h2 with rfl | rfl | rfl | rfl | rfl | rfl | rfl | rfl | rfl | rfl | rfl | rfl
  · exact by_swap1
  · exact by_swap2
  · exact by_swap3
  · exact by_swap4
  · exact by_swap5
  · exact by_swap6
  · exact by_swap7
  · exact by_swap8
  · exact by_swap9
  · exact by_swap10
  · exact by_swap11
  · exact by_swap12
theorem by_spot_ok (h1 : 1 ≤ n) (h2 : n ≤ 12) : m_by_spot (n : Int) = .ok (spT n) := by
  rcases n12 h1 h2 with rfl | rfl | rfl | rfl | rfl | rfl | rfl | rfl | rfl | rfl | rfl | rfl
  · exact by_spot1
  · exact by_spot2
  · exact by_spot3
  · exact by_spot4
  · exact by_spot5
  · exact by_spot6
  · exact by_spot7
  · exact by_spot8
  · exact by_spot9
  · exact by_spot10
  · exact by_spot11
  · exact by_spot12
def wb (w : Way) (n : Nat) (r : Int) : Int := if r < 0 then 0 else match w with
  | .shift => ((ct n (min r.toNat (n - 1)) n 0 : Nat) : Int)
  | .swap => ((swT n).take (min r.toNat (n * n) + 1)).sum
  | .spot => ((spT n).take (min r.toNat (n * n) + 1)).sum
theorem within_by_ok (w : Way) (h1 : 1 ≤ n) (h2 : n ≤ 12) (r : Int) : m_within_by (wS w) (n : Int) r = .ok (wb w n r) := by
  unfold m_within_by wb
  by_cases hr : r < 0
  · rw [decide_eq_true hr, if_pos rfl, if_pos hr]
  · rw [decide_eq_false hr, if_neg (by decide), if_neg hr, show (("shift" : Str)) = wS .shift from rfl, show (("swap" : Str)) = wS .swap from rfl, eqG_way, ob_some]
    have hm : (n : Int) * (n : Int) = ((n * n : Nat) : Int) := by push_cast; rfl
    have hk : min2 r (((n * n : Nat) : Int)) + 1 = ((min r.toNat (n * n) + 1 : Nat) : Int) := by unfold min2; split <;> omega
    have hs : min2 r ((n : Int) - 1) = ((min r.toNat (n - 1) : Nat) : Int) := by unfold min2; split <;> omega
    cases w
    · rw [if_neg (by decide), by_spot_ok h1 h2, bind_ok, eqG_way, ob_some, if_pos (by decide), by_swap_ok h1 h2, bind_ok, bind_ok, mulI_l (by omega), ob_some, hm, hk, cut_take _ (by omega), Int.toNat_natCast]
    · rw [if_neg (by decide), by_spot_ok h1 h2, bind_ok, eqG_way, ob_some, if_neg (by decide), bind_ok, mulI_l (by omega), ob_some, hm, hk, cut_take _ (by omega), Int.toNat_natCast]
    · rw [if_pos (by decide), hs, shifted_ok h1 h2 _ (by omega), bind_ok]
theorem need_things_ok (h1 : 1 ≤ n) (h2 : n ≤ 12) : m_need_things (n : Int) = .ok () := by
  unfold m_need_things
  rw [is_whole_ok, bind_ok, decide_eq_true (by omega : (1 : Int) ≤ n), decide_eq_true (by omega : (n : Int) ≤ 12)]
  rfl
theorem need_reach_ok {r : Int} (h : 0 ≤ r) : m_need_reach r = .ok () := by
  unfold m_need_reach
  rw [is_whole_ok, bind_ok, decide_eq_false (by omega : ¬ r < 0)]
  rfl
theorem count_within_ok (w : Way) (h1 : 1 ≤ n) (h2 : n ≤ 12) {r : Int} (hr : 0 ≤ r) : m_count_within (wS w) (n : Int) r = .ok (wb w n r) := by
  unfold m_count_within
  rw [need_way_ok, bind_ok, need_things_ok h1 h2, bind_ok, need_reach_ok hr, bind_ok, within_by_ok w h1 h2]
  rfl
theorem count_at_ok (w : Way) (h1 : 1 ≤ n) (h2 : n ≤ 12) {r : Int} (hr : 0 ≤ r) : m_count_at (wS w) (n : Int) r = .ok (wb w n r - wb w n (r - 1)) := by
  unfold m_count_at
  rw [need_way_ok, bind_ok, need_things_ok h1 h2, bind_ok, need_reach_ok hr, bind_ok, within_by_ok w h1 h2, bind_ok, within_by_ok w h1 h2]
  rfl
def fct : Nat → Nat
  | 0 => 1
  | n + 1 => (n + 1) * fct n
def free (n m : Nat) : Nat := sm n fun p => bn (!m.testBit p)
theorem bit_bset {m p q : Nat} : (bset m p).testBit q = (m.testBit q || decide (q = p)) := by
  unfold bset
  rw [Nat.testBit_or, Nat.testBit_two_pow]
  congr 1
  exact decide_eq_decide.mpr ⟨fun h => h.symm, fun h => h.symm⟩
theorem free_bset {m p : Nat} (hp : p < n) (h : m.testBit p = false) : free n (bset m p) + 1 = free n m := by
  have : free n m = sm n fun q => bn (!(bset m p).testBit q) + bn (decide (q = p)) * 1 := sm_congr fun q hq => by
    rw [bit_bset]
    by_cases e : q = p
    · subst e; rw [h]; simp [bn]
    · rw [decide_eq_false e, Bool.or_false]; simp [bn]
  rw [this, sm_add, sm_delta 1 hp]
  rfl
theorem ct_full {r : Nat} (hr : n - 1 ≤ r) : ∀ (k m : Nat), k ≤ n → free n m = k → ct n r k m = fct k
  | 0, _, _, _ => rfl
  | k + 1, m, hk, hm => by
    show (sm n fun p => bn (decide (df p (n - (k + 1)) ≤ r) && !m.testBit p) * ct n r k (bset m p)) = (k + 1) * fct k
    have : (sm n fun p => bn (decide (df p (n - (k + 1)) ≤ r) && !m.testBit p) * ct n r k (bset m p)) = sm n fun p => fct k * bn (!m.testBit p) := sm_congr fun p hp => by
      rw [decide_eq_true (by unfold df; omega : df p (n - (k + 1)) ≤ r), Bool.true_and]
      cases hb : m.testBit p with
      | true => simp [bn]
      | false =>
        have := free_bset hp hb
        rw [ct_full hr k (bset m p) (by omega) (by omega), Nat.mul_comm]
    rw [this, sm_mul]
    show fct k * free n m = _
    rw [hm, Nat.mul_comm]
theorem free_zero : free n 0 = n := by
  unfold free
  rw [sm_congr (g := fun _ => 1) fun p _ => by rw [Nat.zero_testBit]; rfl, sm_const, Nat.mul_one]
end TM
set_option maxRecDepth 100000
namespace K15
open PySem VL VP TM D PySem.SeqAt
open L2 (atI ixN)
variable {n : Nat} {xs ys zs : List Int}
def StOk (s : List Int × Int) : Prop := 1 ≤ s.1.length ∧ s.1.length ≤ 1000
theorem emod_bd (a : Int) {b : Int} (h : 0 < b) : 0 ≤ a % b ∧ a % b < b := ⟨Int.emod_nonneg a (by omega), Int.emod_lt_of_pos a h⟩
theorem take_spec {s : List Int × Int} {many : Int} (h : StOk s) (hm : 0 < many) : ∃ v s', m__law_take s many = .ok (v, s') ∧ 0 ≤ v ∧ v < many ∧ StOk s' := by
  obtain ⟨h1, h2⟩ := h
  unfold m__law_take
  dsimp only
  obtain ⟨a0, a1⟩ := emod_bd (s.2 + 1 - 1) (b := (s.1.length : Int)) (by omega)
  rw [modI_of (by omega), ob_some, at_of a0 a1, ob_some, modI_of hm, ob_some]
  obtain ⟨b0, b1⟩ := emod_bd (s.1[((s.2 + 1 - 1) % (s.1.length : Int)).toNat]'(by omega)) hm
  exact ⟨_, _, rfl, b0, b1, h1, h2⟩
theorem sq_ok (a b : Int) : mulI (a % 2147483647) b = some (a % 2147483647 * b) := by
  obtain ⟨h0, h1⟩ := emod_bd a (b := 2147483647) (by decide)
  exact mulI_l (by omega)
theorem sq_ok2 (a b : Int) : mulI (a % 2147483629) b = some (a % 2147483629 * b) := by
  obtain ⟨h0, h1⟩ := emod_bd a (b := 2147483629) (by decide)
  exact mulI_l (by omega)
theorem sq_ok3 (a b : Int) : mulI (a % 2147483563) b = some (a % 2147483563 * b) := by
  obtain ⟨h0, h1⟩ := emod_bd a (b := 2147483563) (by decide)
  exact mulI_l (by omega)
theorem draws_ok (ns : List Int) : Sat (m__law_draws ns 100) fun l => StOk (l, 0) := by
  unfold m__law_draws
  have hl63 : (cutD ns none (some (63 : Int))).length ≤ 63 := by
    rw [cut_take _ (by decide), List.length_take]
    exact Nat.min_le_left _ _
  refine sat_bind (Q := fun s => s.1.length ≤ 300) ?_ fun s hs => ?_
  · have := sat_foldM (mb := fun (s39 : ((List Int) × Int)) (x40 : (Int × Int)) =>
  R.bind (if (decide (((10 : Int) ^ ((18 : Int)).toNat) ≤ (absI x40.2))) = true then
  (R.bind (whileM (fun (s53 : ((List Int) × Int)) =>
  .ok (((decide ((0 : Int) < s53.2)) && (decide ((s53.1.length : Int) < 100))))) (fun (s53 : ((List Int) × Int)) =>
  ob (appL s53.1 ((s53.2 % (10007 : Int)))) fun v54 =>
  .ok ((v54, (s53.2 / (10007 : Int))))) 1000000 ((s39.1, (absI x40.2)))) fun (s55 : ((List Int) × Int)) =>
  .ok ((s55.1, s55.2)))
  else
  (ob (mulI (((((((absI x40.2) % (2147483647 : Int)) + x40.1) + (1 : Int)) * (48271 : Int)) % (2147483647 : Int))) (((((((absI x40.2) % (2147483647 : Int)) + x40.1) + (1 : Int)) * (48271 : Int)) % (2147483647 : Int)))) fun v56 =>
  ob (appL s39.1 ((((v56 % (2147483629 : Int)) / (8 : Int)) % (10007 : Int)))) fun v57 =>
  ob (mulI ((((((v56 % (2147483629 : Int)) * (40692 : Int)) + ((2 : Int) * x40.1)) + (1 : Int)) % (2147483563 : Int))) ((((((v56 % (2147483629 : Int)) * (40692 : Int)) + ((2 : Int) * x40.1)) + (1 : Int)) % (2147483563 : Int)))) fun v58 =>
  ob (appL v57 ((((v58 % (2147483647 : Int)) / (8 : Int)) % (10007 : Int)))) fun v59 =>
  .ok ((v59, (absI x40.2))))) fun (s50 : ((List Int) × Int)) =>
  R.ok ((s50.1, (((s39.2 * (31 : Int)) + (absI x40.2)) % (2147483629 : Int))))) (fun k s => s.1.length ≤ 100 + 2 * k) (enumT 0 (cutD ns none (some (63 : Int)))) 0 (([] : List Int), (7 : Int)) (by simp) fun k s hk hs => by
      rw [enumT_len] at hk
      generalize (enumT 0 (cutD ns none (some (63 : Int))))[k] = x
      refine sat_bind (Q := fun s => s.1.length ≤ 100 + 2 * (0 + k + 1)) ?_ fun s hs => sat_ok hs
      refine sat_ite (fun _ => ?_) fun _ => ?_
      · refine sat_bind (sat_while (fun s => s.1.length ≤ 100 + 2 * (0 + k)) (fun s => 0 < s.2 ∧ s.1.length < 100) (fun s => 100 - s.1.length) (fun s hs => ?_) (fun s hs hb => ?_) 1000000 (s.1, absI x.2) hs (by dsimp only; omega)) fun s ⟨hs, _⟩ => sat_ok (by dsimp only; omega)
        · refine sat_ok ?_
          rw [Bool.and_eq_true, decide_eq_true_eq, decide_eq_true_eq]
          exact ⟨fun ⟨a, b⟩ => ⟨a, by omega⟩, fun ⟨a, b⟩ => ⟨a, by omega⟩⟩
        · obtain ⟨_, hb2⟩ := hb
          rw [appL_of (by unfold big; omega), ob_some]
          refine sat_ok ⟨?_, ?_⟩ <;> (dsimp only; rw [List.length_append, List.length_singleton]; omega)
      · rw [sq_ok, ob_some, appL_of (by unfold big; omega), ob_some, sq_ok3, ob_some, appL_of (by rw [List.length_append, List.length_singleton]; unfold big; omega), ob_some]
        refine sat_ok ?_
        dsimp only
        rw [List.length_append, List.length_append, List.length_singleton, List.length_singleton]
        omega
    refine this.mono fun s hs => ?_
    rw [enumT_len] at hs
    omega
  · obtain ⟨l, base⟩ := s
    dsimp only at hs ⊢
    rw [rg1_of (by omega), ob_some]
    have hi : (iota ((100 : Int) - (l.length : Int)).toNat).length = ((100 : Int) - (l.length : Int)).toNat := iota_len _
    have := sat_foldM (mb := fun (s68 : (List Int)) (x69 : Int) =>
  ob (mulI ((((base + ((7919 : Int) * x69)) + (13 : Int)) % (2147483629 : Int))) ((((base + ((7919 : Int) * x69)) + (13 : Int)) % (2147483629 : Int)))) fun v70 =>
  ob (mulI (((((v70 % (2147483647 : Int)) * (69621 : Int)) + x69) % (2147483563 : Int))) (((((v70 % (2147483647 : Int)) * (69621 : Int)) + x69) % (2147483563 : Int)))) fun v71 =>
  ob (appL s68 ((((v71 % (2147483629 : Int)) / (8 : Int)) % (10007 : Int)))) fun v72 =>
  R.ok v72) (fun k s => s.length = l.length + k) (iota ((100 : Int) - (l.length : Int)).toNat) 0 l rfl fun k s hk hs => by
      rw [hi] at hk
      generalize (iota ((100 : Int) - (l.length : Int)).toNat)[k] = x
      rw [sq_ok2, ob_some, sq_ok3, ob_some, appL_of (by unfold big; omega), ob_some]
      exact sat_ok (by rw [List.length_append, List.length_singleton]; omega)
    refine sat_bind this fun s hs => sat_ok ?_
    rw [hi] at hs
    constructor <;> (dsimp only; omega)
end K15
set_option maxRecDepth 100000
namespace K15
open PySem VL VP TM D PySem.SeqAt
open PySem.W (Datum Tup T3)
open L2 (atI ixN)
variable {n r : Nat} {xs ys zs : List Int}
def fre (n m : Nat) : List Int := (iota n).filter fun x => !m.testBit x.toNat
theorem mem_fre {m : Nat} {x : Int} : x ∈ fre n m ↔ ∃ p : Nat, p < n ∧ x = (p : Int) ∧ m.testBit p = false := by
  unfold fre
  rw [List.mem_filter]
  constructor
  · rintro ⟨h1, h2⟩
    obtain ⟨p, hp, rfl⟩ := mem_iotaN h1
    exact ⟨p, hp, rfl, by simpa using h2⟩
  · rintro ⟨p, hp, rfl, h⟩
    exact ⟨mem_iota.mpr ⟨by omega, by omega⟩, by simpa using h⟩
theorem fre_nodup (m : Nat) : (fre n m).Nodup := (D.iota_nodup n).sublist List.filter_sublist
theorem lt_bit {m q : Nat} (h : m < 2 ^ n) (hq : n ≤ q) : m.testBit q = false := Nat.testBit_lt_two_pow (Nat.lt_of_lt_of_le h (Nat.pow_le_pow_right (by decide) hq))
theorem fre_inj {m m' : Nat} (h : m < 2 ^ n) (h' : m' < 2 ^ n) (e : fre n m = fre n m') : m = m' := by
  have key : ∀ {m m' : Nat} {q : Nat}, q < n → fre n m = fre n m' → m.testBit q = false → m'.testBit q = false := fun {m m' q} hq e hb => by
    have : ((q : Nat) : Int) ∈ fre n m' := e ▸ mem_fre.mpr ⟨q, hq, rfl, hb⟩
    obtain ⟨p, _, hp, hb'⟩ := mem_fre.mp this
    rwa [show p = q by omega] at hb'
  refine Nat.eq_of_testBit_eq fun q => ?_
  by_cases hq : q < n
  · cases b1 : m.testBit q with
    | false => rw [key hq e b1]
    | true =>
      cases b2 : m'.testBit q with
      | false => rw [key hq e.symm b2] at b1; cases b1
      | true => rfl
  · rw [lt_bit h (by omega), lt_bit h' (by omega)]
theorem fre_len (m : Nat) : (fre n m).length = free n m := by
  unfold fre free
  have h : ∀ (l : List Int) (P : Int → Bool), (((l.filter P).length : Nat) : Int) = (l.map fun x => ((bn (P x) : Nat) : Int)).sum := by
    intro l P
    induction l with
    | nil => rfl
    | cons a l ih =>
      rw [List.filter_cons, List.map_cons, List.sum_cons, ← ih]
      cases P a with
      | true => rw [if_pos rfl, List.length_cons]; show _ = ((1 : Nat) : Int) + _; omega
      | false => rw [if_neg (by decide)]; show _ = ((0 : Nat) : Int) + _; omega
  have h1 := h (iota n) fun x => !m.testBit x.toNat
  rw [sum_iota (fun p => bn (!m.testBit p))] at h1
  exact_mod_cast h1
theorem er {l : List Int} (hn : l.Nodup) {k : Nat} {x : Int} (hk : l[k]? = some x) : l.take k ++ l.drop (k + 1) = l.filter fun y => decide (y ≠ x) := by
  induction l generalizing k with
  | nil => cases hk
  | cons a l ih =>
    obtain ⟨n1, n2⟩ := List.nodup_cons.mp hn
    cases k with
    | zero =>
      cases hk
      rw [List.filter_cons, if_neg (by simp)]
      show l = _
      refine (List.filter_eq_self.mpr fun y hy => ?_).symm
      rw [decide_eq_true_eq]
      exact fun z => n1 (z ▸ hy)
    | succ k =>
      have hk' : l[k]? = some x := hk
      have hx := List.mem_of_getElem? hk'
      rw [List.filter_cons, if_pos (decide_eq_true (show a ≠ x from fun z => n1 (z ▸ hx))), ← ih n2 hk']
      rfl
theorem fre_er {m k p : Nat} (hk : (fre n m)[k]? = some (p : Int)) : (fre n m).take k ++ (fre n m).drop (k + 1) = fre n (bset m p) := by
  rw [er (fre_nodup m) hk]
  unfold fre
  rw [List.filter_filter]
  refine List.filter_congr fun x hx => ?_
  obtain ⟨q, hq, rfl⟩ := mem_iotaN hx
  rw [Int.toNat_natCast, bit_bset]
  by_cases e : q = p
  · subst e
    simp
  · have : ((q : Nat) : Int) ≠ (p : Int) := by omega
    simp [this, e]
theorem fre_sum (m : Nat) (f : Nat → Nat) : ((fre n m).map fun x => ((f x.toNat : Nat) : Int)).sum = ((sm n fun p => bn (!m.testBit p) * f p : Nat) : Int) := by
  rw [← sum_iota fun p => bn (!m.testBit p) * f p]
  unfold fre
  generalize iota n = l
  induction l with
  | nil => rfl
  | cons a l ih =>
    rw [List.filter_cons, List.map_cons, List.sum_cons, ← ih]
    cases m.testBit a.toNat with
    | true => show ((l.filter _).map _).sum = ((bn false * f a.toNat : Nat) : Int) + _; rw [show bn false * f a.toNat = 0 from Nat.zero_mul _]; omega
    | false => show (((f a.toNat : Nat) : Int) :: _).sum = ((bn true * f a.toNat : Nat) : Int) + _; rw [show bn true * f a.toNat = f a.toNat from Nat.one_mul _, List.sum_cons]
structure KG (n r : Nat) (l : List (Tup Int × Int)) : Prop where
  ok : ∀ p ∈ l, ∃ m, m < 2 ^ n ∧ p.1 = ⟨fre n m⟩ ∧ p.2 = ((ct n r (free n m) m : Nat) : Int)
  nd : (l.map (·.1)).Nodup
theorem sub_len {τ : Type} [DecidableEq τ] : ∀ (l1 l2 : List τ), l1.Nodup → l1 ⊆ l2 → l1.length ≤ l2.length
  | [], _, _, _ => Nat.zero_le _
  | a :: l1, l2, hn, hs => by
    obtain ⟨n1, n2⟩ := List.nodup_cons.mp hn
    have ha := hs List.mem_cons_self
    have h1 := (List.perm_cons_erase ha).length_eq
    rw [List.length_cons] at h1 ⊢
    have h2 := sub_len l1 (l2.erase a) n2 fun x hx => (List.mem_erase_of_ne (by intro z; subst z; exact n1 hx)).mpr (hs (List.mem_cons_of_mem _ hx))
    omega
theorem KG.len {l : List (Tup Int × Int)} (h : KG n r l) : l.length ≤ 2 ^ n := by
  have h1 := sub_len (l.map (·.1)) ((List.range (2 ^ n)).map fun m => Tup.mk (fre n m)) h.nd fun x hx => by
    obtain ⟨p, hp, rfl⟩ := List.mem_map.mp hx
    obtain ⟨m, hm, e, _⟩ := h.ok p hp
    exact List.mem_map.mpr ⟨m, List.mem_range.mpr hm, e.symm⟩
  rw [List.length_map, List.length_map, List.length_range] at h1
  exact h1
theorem KG.look {l : List (Tup Int × Int)} (h : KG n r l) {m : Nat} (hm : m < 2 ^ n) {v : Int} (e : lookT l ⟨fre n m⟩ = some v) : v = ((ct n r (free n m) m : Nat) : Int) := by
  unfold lookT at e
  obtain ⟨p, hp, rfl⟩ := Option.map_eq_some_iff.mp e
  have h1 := List.find?_some hp
  have h2 := List.mem_of_find?_eq_some hp
  obtain ⟨m', hm', e1, e2⟩ := h.ok p h2
  have e3 : p.1 = ⟨fre n m⟩ := of_decide_eq_true h1
  have e4 : fre n m' = fre n m := Tup.mk.inj (e1.symm.trans e3)
  rw [e2, fre_inj hm' hm e4]
theorem KG.put {l : List (Tup Int × Int)} (h : KG n r l) {m : Nat} (hm : m < 2 ^ n) : KG n r (putT l ⟨fre n m⟩ ((ct n r (free n m) m : Nat) : Int)) := by
  unfold putT
  split
  · refine ⟨fun p hp => ?_, ?_⟩
    · obtain ⟨q, hq, rfl⟩ := List.mem_map.mp hp
      by_cases e : q.1 = ⟨fre n m⟩
      · rw [if_pos e]
        exact ⟨m, hm, e, rfl⟩
      · rw [if_neg e]
        exact h.ok q hq
    · rw [List.map_map]
      have : ((fun p : Tup Int × Int => p.1) ∘ fun p => if p.1 = ⟨fre n m⟩ then (p.1, ((ct n r (free n m) m : Nat) : Int)) else p) = fun p => p.1 := by
        funext p
        show (if p.1 = ⟨fre n m⟩ then (p.1, ((ct n r (free n m) m : Nat) : Int)) else p).1 = p.1
        split <;> rfl
      rw [this]
      exact h.nd
  · rename_i hno
    refine ⟨fun p hp => ?_, ?_⟩
    · rcases List.mem_append.mp hp with hp | hp
      · exact h.ok p hp
      · rw [List.mem_singleton.mp hp]
        exact ⟨m, hm, rfl, rfl⟩
    · rw [List.map_append]
      refine List.nodup_append.mpr ⟨h.nd, by simp, fun a ha b hb => ?_⟩
      have hb' : b = ⟨fre n m⟩ := by simpa using hb
      subst hb'
      intro z
      subst z
      obtain ⟨p, hp, e⟩ := List.mem_map.mp ha
      exact hno (List.any_eq_true.mpr ⟨p, hp, decide_eq_true e⟩)
theorem cut_head (l : List Int) {k : Nat} : cutD l none (some (k : Int)) = l.take k := cut_take _ (by omega)
theorem cut_tail (l : List Int) {k : Nat} : cutD l (some ((k : Int) + 1)) none = l.drop (k + 1) := by
  rw [show (k : Int) + 1 = ((k + 1 : Nat) : Int) by omega, cut_drop _ (by omega), Int.toNat_natCast]
/-- one walk over the things left -/
theorem walk_ok {mb : List (Tup Int × Int) × Int → Int × Int → R (List (Tup Int × Int) × Int)} {g : Int → Int} : ∀ (ps : List (Int × Int)) (kn : List (Tup Int × Int)) (tot : Int), KG n r kn →
    (∀ p ∈ ps, ∀ kn tot, KG n r kn → ∃ kn', mb (kn, tot) p = .ok (kn', tot + g p.2) ∧ KG n r kn') → ∃ kn', foldM mb ps (kn, tot) = .ok (kn', tot + ((ps.map fun p => g p.2).sum)) ∧ KG n r kn'
  | [], kn, tot, h, _ => ⟨kn, by show R.ok _ = _; simp, h⟩
  | p :: ps, kn, tot, h, hb => by
    obtain ⟨kn1, e1, h1⟩ := hb p List.mem_cons_self kn tot h
    obtain ⟨kn2, e2, h2⟩ := walk_ok ps kn1 (tot + g p.2) h1 fun q hq => hb q (List.mem_cons_of_mem _ hq)
    refine ⟨kn2, ?_, h2⟩
    unfold foldM
    rw [e1, bind_ok, e2, List.map_cons, List.sum_cons, Int.add_assoc]
theorem enum_snd {τ υ : Type} (f : τ → υ) : ∀ (l : List τ) (i : Nat), (enumT i l).map (fun p => f p.2) = l.map f
  | [], _ => rfl
  | x :: l, i => by
    show f x :: _ = f x :: _
    rw [enum_snd f l (i + 1)]
theorem ct_fre {k m : Nat} : ct n r (k + 1) m = sm n fun p => bn (!m.testBit p) * (bn (decide (df p (n - (k + 1)) ≤ r)) * ct n r k (bset m p)) := by
  show (sm n fun p => bn (decide (df p (n - (k + 1)) ≤ r) && !m.testBit p) * ct n r k (bset m p)) = _
  refine sm_congr fun p _ => ?_
  cases decide (df p (n - (k + 1)) ≤ r) <;> cases m.testBit p <;> simp [bn]
theorem fill_ok (h2 : n ≤ 12) : ∀ (k rj m : Nat) (kn : List (Tup Int × Int)), k < rj → k ≤ n → m < 2 ^ n → free n m = k → KG n r kn → ∃ kn', m__law_fill rj (n : Int) (r : Int) ((n - k : Nat) : Int) ⟨fre n m⟩ kn = .ok (((ct n r k m : Nat) : Int), kn') ∧ KG n r kn'
  | k, 0, _, _, h, _, _, _, _ => absurd h (Nat.not_lt_zero _)
  | 0, rj + 1, m, kn, _, _, _, _, hk => by
    refine ⟨kn, ?_, hk⟩
    unfold m__law_fill
    rw [if_pos (decide_eq_true (by omega))]
    rfl
  | k + 1, rj + 1, m, kn, hj, hkn, hm, hf, hg => by
    have hb : big = 1000000 := rfl
    have h212 : 2 ^ n ≤ 4096 := Nat.pow_le_pow_right (by decide) h2
    have hfl : (fre n m).length = k + 1 := (fre_len m).trans hf
    unfold m__law_fill
    rw [if_neg (by rw [decide_eq_true_eq]; omega)]
    cases q : lookT kn ⟨fre n m⟩ with
    | some v =>
      refine ⟨kn, ?_, hg⟩
      rw [if_neg (show ¬ (!(some v).isSome) = true by simp), bind_ok, q, ob_some, hg.look hm q, hf]
    | none =>
      rw [if_pos (show (!(none : Option Int).isSome) = true from rfl)]
      obtain ⟨kn1, e1, h1⟩ := walk_ok (n := n) (r := r) (g := fun x => ((bn (decide (df x.toNat (n - (k + 1)) ≤ r)) * ct n r k (bset m x.toNat) : Nat) : Int)) (mb := fun (s31 : ((List ((Tup Int) × Int)) × Int)) (x32 : (Int × Int)) =>
        R.bind (if (decide ((absI ((x32.2 - ((n - (k + 1) : Nat) : Int)))) ≤ (r : Int))) = true then
        (ob (addU ((Tup.mk (cutD (fre n m) none (some x32.1)))) ((Tup.mk (cutD (fre n m) (some (x32.1 + (1 : Int))) none)))) fun v36 =>
        R.bind (m__law_fill rj (n : Int) (r : Int) ((((n - (k + 1) : Nat) : Int) + (1 : Int))) v36 s31.1) fun v37 =>
        .ok ((v37.2, (s31.2 + v37.1))))
        else
        (.ok ((s31.1, s31.2)))) fun (s35 : ((List ((Tup Int) × Int)) × Int)) =>
        .ok ((s35.1, s35.2))) (enumT 0 (fre n m)) kn 0 hg fun p hp kn tot hk => by
          obtain ⟨j, hj', e⟩ := List.getElem_of_mem hp
          rw [enumT_get] at e
          have hjl : j < (fre n m).length := by rw [enumT_len] at hj'; exact hj'
          have hmem := List.getElem_mem hjl
          obtain ⟨t, ht, et, hbt⟩ := mem_fre.mp hmem
          have hget : (fre n m)[j]? = some (t : Int) := by rw [List.getElem?_eq_getElem hjl, et]
          rw [et, Nat.zero_add] at e
          subst e
          dsimp only
          rw [absI_df, Int.toNat_natCast]
          by_cases hd : df t (n - (k + 1)) ≤ r
          · rw [if_pos (decide_eq_true (by omega)), cut_head, cut_tail]
            have hU : addU (Tup.mk ((fre n m).take j)) (Tup.mk ((fre n m).drop (j + 1))) = some ⟨fre n (bset m t)⟩ := by
              unfold addU
              rw [if_pos (by dsimp only; rw [List.length_take, List.length_drop]; omega)]
              dsimp only
              rw [fre_er hget]
            have hfr := free_bset ht hbt
            obtain ⟨kn2, e2, h3⟩ := fill_ok h2 k rj (bset m t) kn (by omega) (by omega) (bset_lt hm ht) (by omega) hk
            refine ⟨kn2, ?_, h3⟩
            rw [hU, ob_some, show (((n - (k + 1) : Nat) : Int) + 1) = ((n - k : Nat) : Int) by omega, e2, bind_ok, bind_ok]
            dsimp only
            rw [decide_eq_true hd, show bn true * ct n r k (bset m t) = ct n r k (bset m t) from Nat.one_mul _]
          · refine ⟨kn, ?_, hk⟩
            rw [if_neg (by rw [decide_eq_true_eq]; omega), bind_ok, decide_eq_false hd, show bn false * ct n r k (bset m t) = 0 from Nat.zero_mul _]
            simp
      have hsum : (0 : Int) + ((enumT 0 (fre n m)).map fun p => ((bn (decide (df p.2.toNat (n - (k + 1)) ≤ r)) * ct n r k (bset m p.2.toNat) : Nat) : Int)).sum = ((ct n r (k + 1) m : Nat) : Int) := by
        rw [enum_snd (fun x : Int => ((bn (decide (df x.toNat (n - (k + 1)) ≤ r)) * ct n r k (bset m x.toNat) : Nat) : Int)) (fre n m) 0, fre_sum m (fun p => bn (decide (df p (n - (k + 1)) ≤ r)) * ct n r k (bset m p)), ← ct_fre, Int.zero_add]
      rw [hsum] at e1
      have hlen := h1.len
      refine ⟨_, ?_, hf ▸ h1.put hm⟩
      dsimp only at e1 ⊢
      rw [e1, bind_ok]
      dsimp only
      unfold putG
      rw [if_pos (by omega), ob_some, bind_ok, look_put, if_pos rfl, ob_some]
theorem shifts_ok (h1 : 1 ≤ n) (h2 : n ≤ 12) {r : Int} (hr : 0 ≤ r) : m__law_shifts (n : Int) r = .ok (wb .shift n r) := by
  unfold m__law_shifts
  have hm : min2 r (n : Int) = ((min r.toNat n : Nat) : Int) := by unfold min2; split <;> omega
  have hi : iota n = fre n 0 := by
    unfold fre
    exact (List.filter_eq_self.mpr fun x _ => by rw [Nat.zero_testBit]; rfl).symm
  rw [lrg1_nat (by omega), ob_some, hm, hi]
  obtain ⟨kn, e, _⟩ := fill_ok (r := min r.toNat n) h2 n 30 0 [] (by omega) (Nat.le_refl _) (Nat.two_pow_pos n) free_zero ⟨(fun p hp => nomatch hp), (by simp)⟩
  rw [Nat.sub_self] at e
  have e' : m__law_fill 30 (n : Int) ((min r.toNat n : Nat) : Int) (0 : Int) ⟨fre n 0⟩ [] = .ok (((ct n (min r.toNat n) n 0 : Nat) : Int), kn) := e
  rw [e', bind_ok]
  unfold wb
  rw [if_neg (by omega)]
  dsimp only
  by_cases c : n - 1 ≤ r.toNat
  · rw [ct_full (by omega) n 0 (Nat.le_refl _) free_zero, ct_full (by omega) n 0 (Nat.le_refl _) free_zero]
  · rw [Nat.min_eq_left (by omega), Nat.min_eq_left (by omega)]
end K15
set_option maxRecDepth 100000
namespace K15
open PySem VL VP TM D PySem.SeqAt
open PySem.W (Datum Tup T3)
open L2 (atI ixN)
variable {n : Nat} {xs ys zs : List Int}
theorem swaps_ok (h1 : 1 ≤ n) (h2 : n ≤ 12) : m__law_swaps 30 (n : Int) = .ok (swT n) := by
  rcases n12 h1 h2 with rfl | rfl | rfl | rfl | rfl | rfl | rfl | rfl | rfl | rfl | rfl | rfl <;> kernel_rfl
theorem spots_ok (h1 : 1 ≤ n) (h2 : n ≤ 12) : m__law_spots (n : Int) = .ok (spT n) := by
  rcases n12 h1 h2 with rfl | rfl | rfl | rfl | rfl | rfl | rfl | rfl | rfl | rfl | rfl | rfl <;> kernel_rfl
theorem swT_len (h1 : 1 ≤ n) (h2 : n ≤ 12) : (swT n).length ≤ n * n + 1 ∧ (swT n).length ≤ 1000 := by
  rcases n12 h1 h2 with rfl | rfl | rfl | rfl | rfl | rfl | rfl | rfl | rfl | rfl | rfl | rfl <;> decide
theorem spT_len (h1 : 1 ≤ n) (h2 : n ≤ 12) : (spT n).length ≤ n * n + 1 ∧ (spT n).length ≤ 1000 := by
  rcases n12 h1 h2 with rfl | rfl | rfl | rfl | rfl | rfl | rfl | rfl | rfl | rfl | rfl | rfl <;> decide
theorem enum_take : ∀ (l : List Int) (i k : Nat), ((enumT i l).filter fun x => decide (x.1 < ((i + k : Nat) : Int))).map (fun x => x.2) = l.take k
  | [], i, k => by rw [List.take_nil]; rfl
  | x :: l, i, k => by
    show ((((i : Int), x) :: enumT (i + 1) l).filter fun x => decide (x.1 < ((i + k : Nat) : Int))).map (fun x => x.2) = _
    rw [List.filter_cons]
    cases k with
    | zero =>
      rw [if_neg (by rw [decide_eq_true_eq]; dsimp only; omega), List.take_zero]
      have := enum_take l (i + 1) 0
      rw [List.take_zero] at this
      refine Eq.trans ?_ this
      congr 1
      refine List.filter_congr fun p hp => decide_eq_decide.mpr ?_
      obtain ⟨j, hj, rfl⟩ := List.getElem_of_mem hp
      rw [enumT_get]
      dsimp only
      omega
    | succ k =>
      rw [if_pos (decide_eq_true (by dsimp only; omega)), List.map_cons, List.take_succ_cons, ← enum_take l (i + 1) k, show i + (k + 1) = i + 1 + k by omega]
theorem within_tab {l : List Int} {r : Int} (hr : 0 ≤ r) (hl : l.length ≤ n * n + 1) (hb : l.length ≤ 1000) :
    lcP (fun (x5 : (Int × Int)) => (decide (x5.1 ≤ r))) (fun (x5 : (Int × Int)) => x5.2) (enumT 0 l) = some (l.take (min r.toNat (n * n) + 1)) := by
  rw [lcP_eq _ _ (by rw [enumT_len]; show l.length ≤ 1000000; omega)]
  have h := enum_take l 0 (r.toNat + 1)
  have e : (fun (x5 : (Int × Int)) => (decide (x5.1 ≤ r))) = fun x => decide (x.1 < ((0 + (r.toNat + 1) : Nat) : Int)) := by
    funext x
    exact decide_eq_decide.mpr (by omega)
  rw [e, h]
  by_cases c : r.toNat ≤ n * n
  · rw [Nat.min_eq_left c]
  · rw [Nat.min_eq_right (by omega), List.take_of_length_le (by omega), List.take_of_length_le (by omega)]
theorem within_ok (w : Way) (h1 : 1 ≤ n) (h2 : n ≤ 12) {r : Int} (hr : 0 ≤ r) : m__law_within (wS w) (n : Int) r = .ok (wb w n r) := by
  unfold m__law_within
  rw [show (("shift" : Str)) = wS .shift from rfl, show (("spot" : Str)) = wS .spot from rfl, eqG_way, ob_some]
  cases w
  · rw [if_neg (by decide), eqG_way, ob_some, if_pos (by decide), swaps_ok h1 h2, bind_ok, within_tab hr (swT_len h1 h2).1 (swT_len h1 h2).2, ob_some]
    unfold wb
    rw [if_neg (by omega)]
  · rw [if_neg (by decide), eqG_way, ob_some, if_neg (by decide), if_pos (by decide), spots_ok h1 h2, bind_ok, within_tab hr (spT_len h1 h2).1 (spT_len h1 h2).2, ob_some]
    unfold wb
    rw [if_neg (by omega)]
  · rw [if_pos (by decide), shifts_ok h1 h2 hr, bind_ok]
theorem whole_ok (a : Int) : m__law_whole a a = .ok true := by
  unfold m__law_whole
  rw [decide_eq_true rfl]
  rfl
theorem right_ok (w : Way) (h1 : 1 ≤ n) (h2 : n ≤ 12) {r : Int} (hr : 0 ≤ r) : m__law_right (wS w) (n : Int) r = .ok true := by
  unfold m__law_right
  rw [within_ok w h1 h2 hr, bind_ok]
  have hless : (if decide ((0 : Int) < r) = true then R.bind (m__law_within (wS w) (n : Int) (r - (1 : Int))) fun v4 => R.ok v4 else R.ok (0 : Int)) = R.ok (wb w n (r - 1)) := by
    by_cases c : 0 < r
    · rw [if_pos (decide_eq_true c), within_ok w h1 h2 (by omega), bind_ok]
    · rw [if_neg (by rw [decide_eq_true_eq]; exact c)]
      unfold wb
      rw [if_pos (by omega)]
  rw [hless, bind_ok, show rg1 (2 : Int) = some (iota 2) from rg1_nat (n := 2) (by decide), ob_some]
  refine Sat.eq (sat_out (I := fun _ => True) (sat_loop (fun _ => True) trivial fun s x _ _ => ?_) fun _ _ => sat_ok rfl)
  rw [count_within_ok w h1 h2 hr, bind_ok, whole_ok, bind_ok, if_neg (by decide), count_at_ok w h1 h2 hr, bind_ok, whole_ok, bind_ok, if_neg (by decide)]
  exact sat_ok ⟨_, rfl, trivial⟩
theorem left : ∀ ns : List Int, ns.length ≤ 63 → ∃ e, h_law [.sc ns] = some (.ret (.fr (.bool true)) e) := fun ns _ => by
  refine law_of (sim_law ns) ?_
  unfold m_law
  refine sat_bind (draws_ok ns) fun l hl => ?_
  refine sat_out (I := StOk) ?_ fun _ _ => sat_ok rfl
  rw [show rg1 (4 : Int) = some (iota 4) from rg1_nat (n := 4) (by decide), ob_some]
  refine sat_loop StOk hl fun s x hx hs => ?_
  obtain ⟨t, ht, rfl⟩ := mem_iotaN hx
  obtain ⟨a, s1, e1, a0, a1, ok1⟩ := take_spec (many := 12) hs (by decide)
  obtain ⟨b, s2, e2, b0, b1, ok2⟩ := take_spec (many := 6) ok1 (by decide)
  obtain ⟨c, s3, e3, c0, c1, ok3⟩ := take_spec (many := 3) ok2 (by decide)
  rw [e1, bind_ok]
  dsimp only
  rw [e2, bind_ok]
  dsimp only
  rw [e3, bind_ok]
  dsimp only
  have hn : ∃ n : Nat, atI [((1 : Int) + a), (12 : Int), ((1 : Int) + b)] c = some (n : Int) ∧ 1 ≤ n ∧ n ≤ 12 := by
    have : c = 0 ∨ c = 1 ∨ c = 2 := by omega
    rcases this with rfl | rfl | rfl
    · exact ⟨(1 + a).toNat, by show some (1 + a) = _; congr 1; omega, by omega, by omega⟩
    · exact ⟨12, rfl, by decide, by decide⟩
    · exact ⟨(1 + b).toNat, by show some (1 + b) = _; congr 1; omega, by omega, by omega⟩
  obtain ⟨n, n1, n2, n3⟩ := hn
  rw [n1, ob_some]
  refine sat_outF (I := StOk) ?_ fun s hs => sat_ok ⟨_, rfl, hs⟩
  refine sat_loop StOk ok3 fun s w hw hs => ?_
  obtain ⟨w, rfl⟩ := ways_mem hw
  have hmul : mulI (n : Int) ((n : Int) - 1) = some ((n : Int) * ((n : Int) - 1)) := mulI_l (by omega)
  rw [hmul, ob_some]
  have hmost : ∃ mo : Int, lookT (mergeT ([(("swap" : Str), ((n : Int) * ((n : Int) - 1) / (2 : Int))), (("spot" : Str), (n : Int)), (("shift" : Str), ((n : Int) - (1 : Int)))] : (List (Str × Int)))) (wS w) = some mo ∧ 0 ≤ mo := by
    cases w
    · refine ⟨(n : Int) * ((n : Int) - 1) / 2, rfl, Int.ediv_nonneg (Int.mul_nonneg (by omega) (by omega)) (by decide)⟩
    · exact ⟨(n : Int), rfl, by omega⟩
    · exact ⟨(n : Int) - 1, rfl, by omega⟩
  obtain ⟨mo, m1, m0⟩ := hmost
  rw [m1, ob_some]
  obtain ⟨d, s4, e4, d0, d1, ok4⟩ := take_spec (many := 4) hs (by decide)
  obtain ⟨e, s5, e5, g0, g1, ok5⟩ := take_spec (many := mo + 1) ok4 (by omega)
  obtain ⟨f, s6, e6, f0, f1, ok6⟩ := take_spec (many := 99) ok5 (by decide)
  rw [e4, bind_ok]
  dsimp only
  rw [e5, bind_ok]
  dsimp only
  rw [e6, bind_ok]
  dsimp only
  have ht2 : (t : Int) % 2 = 0 ∨ (t : Int) % 2 = 1 := by omega
  have hv : ∃ v : Int, atI [((10 : Int) ^ ((25 : Int)).toNat), (mo + f)] ((t : Int) % (2 : Int)) = some v ∧ 0 ≤ v := by
    rcases ht2 with h | h <;> rw [h]
    · exact ⟨_, rfl, by decide⟩
    · exact ⟨_, rfl, by omega⟩
  obtain ⟨v, v1, v0⟩ := hv
  rw [v1, ob_some, addL_of (by show 6 ≤ 1000000; decide), ob_some]
  obtain ⟨k, s7, e7, k0, k1, ok7⟩ := take_spec (many := 6) ok6 (by decide)
  rw [e7, bind_ok]
  dsimp only
  have hr : ∃ r : Int, atI ([d, e, mo, (mo + (1 : Int))] ++ [(max2 (0 : Int) (mo - (1 : Int))), v]) k = some r ∧ 0 ≤ r := by
    have hmx : 0 ≤ max2 (0 : Int) (mo - 1) := by unfold max2; split <;> omega
    have : k = 0 ∨ k = 1 ∨ k = 2 ∨ k = 3 ∨ k = 4 ∨ k = 5 := by omega
    rcases this with rfl | rfl | rfl | rfl | rfl | rfl
    · exact ⟨_, rfl, d0⟩
    · exact ⟨_, rfl, g0⟩
    · exact ⟨_, rfl, m0⟩
    · exact ⟨_, rfl, by omega⟩
    · exact ⟨_, rfl, hmx⟩
    · exact ⟨_, rfl, v0⟩
  obtain ⟨r, r1, r0⟩ := hr
  rw [r1, ob_some, show (("shift" : Str)) = wS .shift from rfl, eqG_way, ob_some]
  have hsz : ∀ z : Int, z = 0 ∨ z = 1 → ∃ q : Nat, atI [(n : Int), (min2 (n : Int) (8 : Int))] z = some (q : Int) ∧ 1 ≤ q ∧ q ≤ 12 := fun z hz => by
    rcases hz with rfl | rfl
    · exact ⟨n, rfl, n2, n3⟩
    · exact ⟨min n 8, by show some (min2 (n : Int) 8) = _; congr 1; unfold min2; split <;> omega, by omega, by omega⟩
  refine sat_ite (fun _ => ?_) fun _ => ?_
  · obtain ⟨q, q1, q2, q3⟩ := hsz (b2i (decide ((0 : Int) < (t : Int)))) (by cases decide ((0 : Int) < (t : Int)) <;> first | exact .inl rfl | exact .inr rfl)
    rw [q1, ob_some, right_ok w q2 q3 r0, bind_ok, if_neg (by decide)]
    exact sat_ok ⟨_, rfl, ok7⟩
  · obtain ⟨q, q1, q2, q3⟩ := hsz (b2i false) (.inl rfl)
    rw [q1, ob_some, right_ok w q2 q3 r0, bind_ok, if_neg (by decide)]
    exact sat_ok ⟨_, rfl, ok7⟩
end K15
set_option maxRecDepth 100000
set_option maxHeartbeats 0
open PySem PySem.W PySem.Calls PyProof.Rows
theorem PySem.Challenge.cw_farorders_k15_how_many_within_holds : PySem.Challenge.rw_farorders_k15_how_many_within.Holds := by
  w_on; o_law
  refine HandSHeadRun.head_any (r := OpenLaw.row PySem.Challenge.rw_farorders_k15_how_many_within) (q := view (OpenLaw.row PySem.Challenge.rw_farorders_k15_how_many_within).prog [29]) (H := K15.hk) (ob := K15.obW) (M := 4000) (loose := K15.nm) (d := HandSHeadRun.topDef (OpenLaw.row PySem.Challenge.rw_farorders_k15_how_many_within).prog 29) (kwd := []) K15.ob_eq
    (by kernel_rfl) (fun s => by kernel_rfl) K15.run (by kernel_rfl) (by kernel_rfl) (by kernel_rfl) (by rfl) (by first | assumption | decide +kernel) (by decide +kernel) ⟨rfl, rfl, rfl, rfl, rfl, by decide +kernel⟩ ?hw ?hc
  case hw => w_witness2
  case hc =>
    refine VL.walk_ofG (l := PySem.Challenge.rw_farorders_k15_how_many_within) (n := 63) (k := 36) (x := "script") rfl (by decide) (by kernel_rfl) ⟨rfl, by decide, by decide⟩ (by kernel_rfl) ?F
    intro w mg fa h Y G hmg0
    obtain ⟨K, KX, c⟩ := Y
    have hmg : mg ("law" : PySem.Str) = some (.ref fa) := by
      have e : (HandSHeadRun.topDef (OpenLaw.row PySem.Challenge.rw_farorders_k15_how_many_within).prog 29).name = ("law" : PySem.Str) := by kernel_rfl
      rw [← e]
      exact hmg0
    obtain ⟨fd, hb, hF⟩ := K15.facts (P := (PySem.Challenge.rw_farorders_k15_how_many_within).prog) (w := w) KX G hmg c.t.d c.more
    exact ⟨K, fd, _, KX, hb, fun H a nums hl _ hS => VL.law_end hS (K15.left nums hl), hF⟩
