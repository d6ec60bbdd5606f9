import PyProof.Rows.All
import Wide.All
import OpenK.AllK
import Wide.FinOn
import HandS.ForMost
import HandS.ForExc
import HandS.TupAny
import HandS.Deep
import HandS.SortInts
import HandS.IsInst
import HandS.ExcIs
import HandS.Wide
import HandS.Style
import HandS.Conv
import HandS.RaiseMore
import HandS.More
import HandS.Defaults
import KE.DataMinMax
import KE.SortData
import KE.DataFind
import KE.DataIsa
import PyProof.ReprReads
import KE.KStateDown
import HandS.Head0
import HandS.Head1
import HandS.Head2
import HandS.HeadEnd
import HandS.HeadHook1
import HandS.HeadHook2
import KE.Datum
import PySem.Challenge.RW_farorders_k02_backs_and_orders_behind
set_option Elab.async false
set_option linter.all false
set_option maxRecDepth 100000
/-! VL0: values of plain data, environments, what an expression and a statement compute (functions). -/
namespace VL
open PySem

/-- what a name holds: frozen data; a list or dict of its own, which may be changed; an error; another thing of its own, told by data -/
inductive B where
  | fr (d : PyData)
  | ow (ds : List PyData)
  | od (kvs : List (PyData × PyData))
  | ex (c : Str)
  | rs (k : Nat) (d : PyData)
  | sc (ns : List Int)
abbrev Env := List (Option B)
/-- an operand: the name in a slot, or a value -/
inductive O where
  | s (i : Nat)
  | b (x : B)
inductive Out (α : Type) where
  | ok (a : α) (e : Env)
  | ex (c : Str) (e : Env)
inductive SO where
  | nx (e : Env)
  | rt (b : B) (e : Env)
  | bk (e : Env)
  | ct (e : Env)
  | ex (c : Str) (e : Env)
abbrev FE := Env → Option (Out O)
abbrev FD := Env → Option (Out (List PyData))
abbrev FA := Env → Option (Out (List O))
abbrev FT := Env → Option (Out Bool)
abbrev FS := Env → Option SO

def B.dat : B → Option PyData
  | .fr d => some d
  | .ow ds => some (.list ds)
  | .od kvs => some (.dict kvs)
  | .ex _ => none
  | .rs _ _ => none
  | .sc _ => none
def at? (e : Env) (i : Nat) : Option B := match e[i]? with
  | some x => x
  | none => none
/-- what is read -/
def res (e : Env) : O → Option PyData
  | .s i => (at? e i).bind B.dat
  | .b b => b.dat
/-- frozen: data that is not changed any more -/
def fz (e : Env) : O → Option (PyData × Env)
  | .s i => match at? e i with
    | some (.fr d) => some (d, e)
    | some (.ow ds) => some (.list ds, e.set i (some (.fr (.list ds))))
    | some (.od kvs) => some (.dict kvs, e.set i (some (.fr (.dict kvs))))
    | _ => none
  | .b b => match b with
    | .fr d => some (d, e)
    | .ow ds => some (.list ds, e)
    | .od kvs => some (.dict kvs, e)
    | _ => none
/-- frozen, or an error, or the script -/
def fzB (e : Env) : O → Option (B × Env)
  | .s i => match at? e i with
    | some (.ex c) => some (.ex c, e)
    | some (.sc ns) => some (.sc ns, e)
    | _ => (fz e (.s i)).map fun p => (.fr p.1, p.2)
  | .b b => match b with
    | .ex c => some (.ex c, e)
    | .sc ns => some (.sc ns, e)
    | _ => (fz e (.b b)).map fun p => (.fr p.1, p.2)

def bnd {α β : Type} (r : Option (Out α)) (k : α → Env → Option (Out β)) : Option (Out β) := match r with
  | none => none
  | some (.ok a e) => k a e
  | some (.ex c e) => some (.ex c e)
def bndS {α : Type} (r : Option (Out α)) (k : α → Env → Option SO) : Option SO := match r with
  | none => none
  | some (.ok a e) => k a e
  | some (.ex c e) => some (.ex c e)
def ok {α : Type} (a : α) (e : Env) : Option (Out α) := some (.ok a e)
/-- frozen data as an operand -/
def okD (d : PyData) (e : Env) : Option (Out O) := some (.ok (.b (.fr d)) e)

/-! ### expressions -/
def fVar (i : Nat) : FE := fun e => match at? e i with
  | some _ => some (.ok (.s i) e)
  | none => none
def fC (d : PyData) : FE := fun e => okD d e
/-- the value frozen at once -/
def fFz (f : FE) : FE := fun e => bnd (f e) fun o e1 => (fz e1 o).bind fun p => okD p.1 p.2
def fBin (op : PyData → PyData → Option B) (fa fb : FE) : FE := fun e => bnd (fa e) fun o1 e1 => bnd (fb e1) fun o2 e2 =>
  (res e2 o1).bind fun x => (res e2 o2).bind fun y => (op x y).bind fun z => some (.ok (.b z) e2)
def fUn (op : PyData → Option B) (fa : FE) : FE := fun e => bnd (fa e) fun o1 e1 => (res e1 o1).bind fun x => (op x).bind fun z => some (.ok (.b z) e1)
/-- items of a display, each frozen -/
def dNil : FD := fun e => some (.ok [] e)
def dCons (f : FE) (r : FD) : FD := fun e => bnd (f e) fun o e1 => (fz e1 o).bind fun p => bnd (r p.2) fun ds e2 => some (.ok (p.1 :: ds) e2)
def fLst (r : FD) : FE := fun e => bnd (r e) fun ds e1 => if ds.length ≤ 1000 then some (.ok (.b (.ow ds)) e1) else none
def fTup (r : FD) : FE := fun e => bnd (r e) fun ds e1 => if ds.length ≤ 1000 then some (.ok (.b (.fr (.tuple ds))) e1) else none
/-- tests -/
def fTest (f : FE) : FT := fun e => bnd (f e) fun o e1 => match res e1 o with
  | some (.bool b) => some (.ok b e1)
  | _ => none
def fOfT (t : FT) : FE := fun e => bnd (t e) fun b e1 => okD (.bool b) e1
def tAnd (t u : FT) : FT := fun e => bnd (t e) fun b e1 => match b with
  | true => u e1
  | false => some (.ok false e1)
def tOr (t u : FT) : FT := fun e => bnd (t e) fun b e1 => match b with
  | true => some (.ok true e1)
  | false => u e1
def tNot (t : FT) : FT := fun e => bnd (t e) fun b e1 => some (.ok (!b) e1)
def fIf (t : FT) (fa fb : FE) : FE := fun e => bnd (t e) fun b e1 => match b with
  | true => fa e1
  | false => fb e1

/-! ### statements -/
def sNil : FS := fun e => some (.nx e)
def sSeq (f g : FS) : FS := fun e => match f e with
  | some (.nx e1) => g e1
  | r => r
def sExpr (f : FE) : FS := fun e => bndS (f e) fun _ e1 => some (.nx e1)
/-- x = e, frozen -/
def sAsg (i : Nat) (f : FE) : FS := fun e => bndS (f e) fun o e1 => (fzB e1 o).bind fun p => some (.nx (p.2.set i (some p.1)))
/-- x = e, x's own from here on -/
def sOwn (i : Nat) (f : FE) : FS := fun e => bndS (f e) fun o e1 => match o with
  | .b b => some (.nx (e1.set i (some b)))
  | .s _ => none
def sRet (f : FE) : FS := fun e => bndS (f e) fun o e1 => (fzB e1 o).bind fun p => some (.rt p.1 p.2)
/-- return of a new list: the caller's own -/
def sRetO (f : FE) : FS := fun e => bndS (f e) fun o e1 => match o with
  | .b b => some (.rt b e1)
  | .s i => (at? e1 i).bind fun b => some (.rt b (e1.set i none))
def sRetN : FS := fun e => some (.rt (.fr .none) e)
def sIf (t : FT) (f g : FS) : FS := fun e => bndS (t e) fun b e1 => match b with
  | true => f e1
  | false => g e1
def sRaise (c : Str) : FS := fun e => some (.ex c e)
def sBrk : FS := fun e => some (.bk e)
/-- names forgotten -/
def forget (vs : List Nat) (e : Env) : Env := vs.foldl (fun e i => e.set i none) e
end VL
namespace VL
open PySem L2

/-! ### arguments, calls of built-ins -/
def aNil : FA := fun e => some (.ok [] e)
def aCons (f : FE) (r : FA) : FA := fun e => bnd (f e) fun o e1 => bnd (r e1) fun os e2 => some (.ok (o :: os) e2)
def resAll (e : Env) : List O → Option (List PyData)
  | [] => some []
  | o :: os => (res e o).bind fun d => (resAll e os).bind fun ds => some (d :: ds)
def fCB (g : List PyData → Option B) (fa : FA) : FE := fun e => bnd (fa e) fun os e1 => (resAll e1 os).bind fun ds => (g ds).bind fun z => some (.ok (.b z) e1)
/-- a < b < c -/
def fChain (g h : PyData → PyData → Option B) (fa fb fc : FE) : FE := fun e => bnd (fa e) fun o1 e1 => bnd (fb e1) fun o2 e2 =>
  (res e2 o1).bind fun x => (res e2 o2).bind fun y => match g x y with
    | some (.fr (.bool true)) => bnd (fc e2) fun o3 e3 => (res e3 o2).bind fun y' => (res e3 o3).bind fun z => (h y' z).bind fun r => some (.ok (.b r) e3)
    | some (.fr (.bool false)) => some (.ok (.b (.fr (.bool false))) e2)
    | _ => none
def fAndV (fa fb : FE) : FE := fun e => bnd (fa e) fun o e1 => match res e1 o with
  | some (.bool true) => fb e1
  | some (.bool false) => okD (.bool false) e1
  | _ => none
def fOrV (fa fb : FE) : FE := fun e => bnd (fa e) fun o e1 => match res e1 o with
  | some (.bool true) => okD (.bool true) e1
  | some (.bool false) => fb e1
  | _ => none
def fNotV (fa : FE) : FE := fun e => bnd (fa e) fun o e1 => match res e1 o with
  | some (.bool b) => okD (.bool (!b)) e1
  | _ => none

/-! ### operators on data -/
def big : Nat := 1000000
def oAdd : PyData → PyData → Option B
  | .int i, .int j => some (.fr (.int (i + j)))
  | .str a, .str b => if a.length + b.length ≤ big then some (.fr (.str (a ++ b))) else none
  | .list xs, .list ys => if xs.length + ys.length ≤ big then some (.ow (xs ++ ys)) else none
  | .tuple xs, .tuple ys => if xs.length + ys.length ≤ big then some (.fr (.tuple (xs ++ ys))) else none
  | _, _ => none
def cMul (i j : Int) : Bool := decide (i.natAbs < 2 ^ 64) || decide (j.natAbs < 2 ^ 64)
def oMul : PyData → PyData → Option B
  | .int i, .int j => if cMul i j = true then some (.fr (.int (i * j))) else none
  | .list xs, .int k => if k.natAbs < 2 ^ 63 ∧ xs.length * k.toNat ≤ big then some (.ow (List.replicate k.toNat xs).flatten) else none
  | _, _ => none
def cFdiv (i j : Int) : Bool := decide (0 < j) && decide (j.natAbs < 2 ^ 64)
def oEq : PyData → PyData → Option B := fun x y => if SeqAt.shaped x = true ∧ SeqAt.shaped y = true then some (.fr (.bool (PyData.eqv x y))) else none
def oNe : PyData → PyData → Option B := fun x y => if SeqAt.shaped x = true ∧ SeqAt.shaped y = true then some (.fr (.bool (!PyData.eqv x y))) else none
def oIn : PyData → PyData → Option B
  | x, .list ds => if SeqAt.shaped x = true ∧ SeqAt.shaped (.list ds) = true then some (.fr (.bool (ds.any fun z => PyData.eqv z x))) else none
  | .str a, .str z => if a.cps.size = 1 then some (.fr (.bool (decide (a.cps.getD 0 0 ∈ z.cps.toList)))) else none
  | _, _ => none
def oNotIn : PyData → PyData → Option B
  | x, .list ds => if SeqAt.shaped x = true ∧ SeqAt.shaped (.list ds) = true then some (.fr (.bool (!ds.any fun z => PyData.eqv z x))) else none
  | .str a, .str z => if a.cps.size = 1 then some (.fr (.bool (!decide (a.cps.getD 0 0 ∈ z.cps.toList)))) else none
  | _, _ => none
def isNone : PyData → Bool
  | .none => true
  | _ => false
def oIs : PyData → PyData → Option B
  | x, .none => some (.fr (.bool (isNone x)))
  | .bool a, .bool b => some (.fr (.bool (decide (a = b))))
  | _, _ => none
def oIsNot : PyData → PyData → Option B
  | x, .none => some (.fr (.bool (!isNone x)))
  | .bool a, .bool b => some (.fr (.bool (!decide (a = b))))
  | _, _ => none
def oIx : PyData → PyData → Option B
  | .list ds, .int i => (atI ds i).map .fr
  | .tuple ds, .int i => (atI ds i).map .fr
  | .str z, .int i => if z.length ≤ big then (atI z.cps.toList i).map fun c => .fr (.str ⟨#[c]⟩) else none
  | _, _ => none
/-- a part of a slice -/
abbrev FO := Env → Option (Out (Option Int))
def oNo : FO := fun e => some (.ok none e)
def oSome (f : FE) : FO := fun e => bnd (f e) fun o e1 => match res e1 o with
  | some (.int i) => some (.ok (some i) e1)
  | _ => none
def cutD {α : Type} (xs : List α) (lo hi : Option Int) : List α := (xs.drop (HT.sIx xs.length 0 lo)).take (HT.sIx xs.length xs.length hi - HT.sIx xs.length 0 lo)
def oSl : PyData → Option Int → Option Int → Option B
  | .list ds, lo, hi => some (.ow (cutD ds lo hi))
  | .str z, lo, hi => if z.length ≤ big then some (.fr (.str (cutS z lo hi))) else none
  | _, _, _ => none
def fSl (fa : FE) (fl fh : FO) : FE := fun e => bnd (fa e) fun o e1 => bnd (fl e1) fun l e2 => bnd (fh e2) fun h e3 => (res e3 o).bind fun x => (oSl x l h).bind fun z => some (.ok (.b z) e3)
def oRev : PyData → Option B
  | .list ds => some (.ow ds.reverse)
  | _ => none

/-! ### built-ins on data -/
def asInts : List PyData → Option (List Int)
  | [] => some []
  | .int i :: ds => (asInts ds).map (i :: ·)
  | _ => none
def gLen : List PyData → Option B
  | [.list ds] => some (.fr (.int ds.length))
  | [.tuple ds] => some (.fr (.int ds.length))
  | [.str z] => if z.length ≤ big then some (.fr (.int z.length)) else none
  | [.dict ks] => some (.fr (.int ks.length))
  | _ => none
def gAbs : List PyData → Option B
  | [.int i] => some (.fr (.int (if i < 0 then -i else i)))
  | _ => none
def maxI : List Int → Int
  | [] => 0
  | x :: xs => xs.foldl max x
def minI : List Int → Int
  | [] => 0
  | x :: xs => xs.foldl min x
def gMax : List PyData → Option B
  | [.int i, .int j] => some (.fr (.int (if j > i then j else i)))
  | [.list (d :: ds)] => (asInts (d :: ds)).map fun ns => .fr (.int (maxI ns))
  | _ => none
def gMin : List PyData → Option B
  | [.int i, .int j] => some (.fr (.int (if j < i then j else i)))
  | [.list (d :: ds)] => (asInts (d :: ds)).map fun ns => .fr (.int (minI ns))
  | _ => none
def gSum : List PyData → Option B
  | [.list ds] => (asInts ds).map fun ns => .fr (.int ns.sum)
  | _ => none
def gInt : List PyData → Option B
  | [.int i] => some (.fr (.int i))
  | [.bool b] => some (.fr (.int (if b then 1 else 0)))
  | _ => none
def gList : List PyData → Option B
  | [.list ds] => some (.ow ds)
  | [.tuple ds] => some (.ow ds)
  | _ => none
def gTuple : List PyData → Option B
  | [.list ds] => some (.fr (.tuple ds))
  | [.tuple ds] => some (.fr (.tuple ds))
  | _ => none
/-- sorted, of ints -/
def leI (a b : Int) : Bool := decide (a ≤ b)
def gSorted : List PyData → Option B
  | [.list ds] => (asInts ds).map fun ns => .ow ((ns.mergeSort leI).map .int)
  | _ => none
end VL
namespace VL
open PySem L2
/-! ### what is walked -/
abbrev FI := Env → Option (Out (List PyData))
/-- a list (frozen), a tuple -/
def iSeq (f : FE) : FI := fun e => bnd (f e) fun o e1 => (fz e1 o).bind fun p => match p.1 with
  | .list ds => some (.ok ds p.2)
  | _ => none
def iTupl (f : FE) : FI := fun e => bnd (f e) fun o e1 => (fz e1 o).bind fun p => match p.1 with
  | .tuple ds => some (.ok ds p.2)
  | _ => none
def iText (f : FE) : FI := fun e => bnd (f e) fun o e1 => (fz e1 o).bind fun p => match p.1 with
  | .str z => some (.ok (z.cps.toList.map fun c => .str ⟨#[c]⟩) p.2)
  | _ => none
def rngN (lo : Int) (n : Nat) : List PyData := (List.range n).map fun (i : Nat) => .int (lo + (i : Int))
def lim (i : Int) : Bool := decide (i.natAbs < 2 ^ 62)
def iRange1 (f : FE) : FI := fun e => bnd (f e) fun o e1 => match res e1 o with
  | some (.int j) => if lim j = true then some (.ok (rngN 0 j.toNat) e1) else none
  | _ => none
def iRange2 (f g : FE) : FI := fun e => bnd (f e) fun o e1 => bnd (g e1) fun o2 e2 => match res e2 o, res e2 o2 with
  | some (.int i), some (.int j) => if lim i = true ∧ lim j = true then some (.ok (rngN i (j - i).toNat) e2) else none
  | _, _ => none
/-- range(i, j, c), c a written number: n items -/
def rngC (lo c : Int) (n : Nat) : List PyData := (List.range n).map fun (i : Nat) => .int (lo + (i : Int) * c)
def rgc (i j c : Int) : Bool := decide (c ≠ 0 ∧ c.natAbs < 1073741824) && Builtin.Range.small i j c && decide (0 ≤ Builtin.Range.rangeSize i j c)
def iRange3 (f g h : FE) : FI := fun e => bnd (f e) fun o e1 => bnd (g e1) fun o2 e2 => bnd (h e2) fun o3 e3 => match res e3 o, res e3 o2, res e3 o3 with
  | some (.int i), some (.int j), some (.int c) => if rgc i j c = true then some (.ok (rngC i c (Builtin.Range.rangeSize i j c).toNat) e3) else none
  | _, _, _ => none
def enumL : Nat → List PyData → List PyData
  | _, [] => []
  | i, d :: ds => .tuple [.int i, d] :: enumL (i + 1) ds
def iEnumr (f : FE) : FI := fun e => bnd (f e) fun o e1 => (fz e1 o).bind fun p => match p.1 with
  | .list ds => some (.ok (enumL 0 ds) p.2)
  | _ => none
def iZipp (f g : FE) : FI := fun e => bnd (f e) fun o e1 => (fz e1 o).bind fun p => bnd (g p.2) fun o2 e2 => (fz e2 o2).bind fun q => match p.1, q.1 with
  | .list ds, .list es => some (.ok (List.zipWith (fun a b => .tuple [a, b]) ds es) q.2)
  | _, _ => none
/-! ### targets -/
abbrev FG := PyData → Env → Option Env
def gN (i : Nat) : FG := fun d e => some (e.set i (some (.fr d)))
def gT2 (i j : Nat) : FG := fun d e => match d with
  | .tuple [a, b] => some ((e.set i (some (.fr a))).set j (some (.fr b)))
  | _ => none
def gT3 (i j k : Nat) : FG := fun d e => match d with
  | .tuple [a, b, c] => some (((e.set i (some (.fr a))).set j (some (.fr b))).set k (some (.fr c)))
  | _ => none
/-! ### loops -/
def sForL (g : FG) (body : FS) (dead : List Nat) : List PyData → FS
  | [], e => some (.nx (forget dead e))
  | d :: ds, e => match g d e with
    | none => none
    | some e1 => match body e1 with
      | some (.nx e2) => sForL g body dead ds (forget dead e2)
      | some (.ct e2) => sForL g body dead ds (forget dead e2)
      | some (.bk e2) => some (.nx (forget dead e2))
      | some (.rt b e2) => some (.rt b e2)
      | some (.ex c e2) => some (.ex c e2)
      | none => none
def sFor (fi : FI) (g : FG) (body : FS) (dead : List Nat) : FS := fun e => bndS (fi e) fun ds e1 => sForL g body dead ds e1
def sWhile (t : FT) (body : FS) (dead : List Nat) : Nat → FS
  | 0, _ => none
  | n + 1, e => bndS (t e) fun b e1 => match b with
    | false => some (.nx e1)
    | true => match body e1 with
      | some (.nx e2) => sWhile t body dead n (forget dead e2)
      | some (.ct e2) => sWhile t body dead n (forget dead e2)
      | some (.bk e2) => some (.nx (forget dead e2))
      | some (.rt b e2) => some (.rt b e2)
      | some (.ex c e2) => some (.ex c e2)
      | none => none
/-! ### comprehensions -/
def tTrue : FT := fun e => some (.ok true e)
def fLcL (g : FG) (t : FT) (f : FE) (vs : List Nat) : List PyData → List PyData → Env → Option (Out O)
  | [], acc, e => some (.ok (.b (.ow acc)) e)
  | d :: ds, acc, e => match g d e with
    | none => none
    | some e1 => match t e1 with
      | some (.ok true e2) => match f e2 with
        | some (.ok o e3) => match fz e3 o with
          | some p => if acc.length < big then fLcL g t f vs ds (acc ++ [p.1]) (forget vs p.2) else none
          | none => none
        | _ => none
      | some (.ok false e2) => fLcL g t f vs ds acc (forget vs e2)
      | _ => none
def fLc (fi : FI) (g : FG) (t : FT) (f : FE) (vs : List Nat) : FE := fun e => bnd (fi e) fun ds e1 => fLcL g t f vs ds [] (forget vs e1)
/-! ### defs -/
inductive FR where
  | ret (b : B) (e : Env)
  | ex (c : Str) (e : Env)
abbrev Fn := List B → Option FR
/-- a def by its body, n names in all -/
def runF (g : FS) (n : Nat) : Fn := fun bs => match g (bs.map some ++ List.replicate (n - bs.length) none) with
  | some (.nx e) => some (.ret (.fr .none) e)
  | some (.rt b e) => some (.ret b e)
  | some (.ex c e) => some (.ex c e)
  | _ => none
/-- arguments: frozen; a name of one's own handed in to be changed -/
def aF (f : FE) (r : FA) : FA := fun e => bnd (f e) fun o e1 => (fzB e1 o).bind fun p => bnd (r p.2) fun os e2 => some (.ok (.b p.1 :: os) e2)
def aM (i : Nat) (r : FA) : FA := fun e => match at? e i with
  | some _ => bnd (r e) fun os e2 => some (.ok (.s i :: os) e2)
  | none => none
def bindO (e : Env) : List O → Option (List B)
  | [] => some []
  | .b x :: os => (bindO e os).bind fun bs => some (x :: bs)
  | .s i :: os => (at? e i).bind fun x => (bindO e os).bind fun bs => some (x :: bs)
/-- mi: (the parameter's place, the caller's slot) -/
def putBack (e2 : Env) : List (Nat × Nat) → Env → Env
  | [], e => e
  | (j, i) :: r, e => putBack e2 r (e.set i (at? e2 j))
/-- where the arguments' slots are those of mi, and all else is frozen -/
def slotsOk (mi : List (Nat × Nat)) : Nat → List O → Bool
  | _, [] => true
  | j, .s i :: os => decide ((j, i) ∈ mi) && slotsOk mi (j + 1) os
  | j, .b x :: os => (match x with
    | .fr _ => true
    | .ex _ => true
    | .sc _ => true
    | _ => false) && slotsOk mi (j + 1) os
def miOk (mi : List (Nat × Nat)) (os : List O) : Bool := mi.all fun p => match os[p.1]? with
  | some (.s i) => i == p.2
  | _ => false
def fCall (F : Fn) (n : Nat) (mi : List (Nat × Nat)) (fa : FA) : FE := fun e => bnd (fa e) fun os e1 => if (slotsOk mi 0 os && miOk mi os && os.length == n) = true then (bindO e1 os).bind fun bs => match F bs with
  | none => none
  | some (.ret b e2) => some (.ok (.b b) (putBack e2 mi e1))
  | some (.ex c e2) => some (.ex c (putBack e2 mi e1)) else none
/-- names of one's own lent to be read; the answer is flat -/
def isFlat : PyData → Bool
  | .none => true
  | .bool _ => true
  | .int _ => true
  | .str _ => true
  | _ => false
def aP (f : FE) (r : FA) : FA := fun e => bnd (f e) fun o e1 => match o with
  | .s i => bnd (r e1) fun os e2 => some (.ok (.s i :: os) e2)
  | .b _ => (fzB e1 o).bind fun p => bnd (r p.2) fun os e2 => some (.ok (.b p.1 :: os) e2)
def lent : B → Option B
  | .fr d => some (.fr d)
  | .ow ds => some (.fr (.list ds))
  | .od ks => some (.fr (.dict ks))
  | .ex c => some (.ex c)
  | .sc ns => some (.sc ns)
  | .rs _ _ => none
def lendO (e : Env) : List O → Option (List B)
  | [] => some []
  | .b x :: os => (lendO e os).bind fun bs => some (x :: bs)
  | .s i :: os => ((at? e i).bind lent).bind fun x => (lendO e os).bind fun bs => some (x :: bs)
/-- nothing owned in what is handed in as a value -/
def flatO : List O → Bool
  | [] => true
  | .s _ :: os => flatO os
  | .b x :: os => (match x with
    | .fr _ => true
    | .ex _ => true
    | .sc _ => true
    | _ => false) && flatO os
def fCallP (F : Fn) (n : Nat) (fa : FA) : FE := fun e => bnd (fa e) fun os e1 => if flatO os = true then (lendO e1 os).bind fun bs => if bs.length = n then match F bs with
  | some (.ret (.fr d) _) => if isFlat d = true then okD d e1 else none
  | some (.ex c _) => some (.ex c e1)
  | _ => none else none else none
end VL
namespace VL
open PySem L2
/-! ### changes of a list of one's own -/
/-- x.m(..), x in slot i -/
def fMth (i : Nat) (g : List PyData → List PyData → Option (B × List PyData)) (fd : FD) : FE := fun e => match at? e i with
  | some (.ow _) => bnd (fd e) fun as e1 => match at? e1 i with
    | some (.ow ds) => (g ds as).bind fun p => some (.ok (.b p.1) (e1.set i (some (.ow p.2))))
    | _ => none
  | _ => none
def mAppend (ds : List PyData) : List PyData → Option (B × List PyData)
  | [d] => if ds.length < big then some (.fr .none, ds ++ [d]) else none
  | _ => none
def mExtend (ds : List PyData) : List PyData → Option (B × List PyData)
  | [.list es] => if ds.length + es.length ≤ big then some (.fr .none, ds ++ es) else none
  | _ => none
def lim63 (i : Int) : Bool := decide (i.natAbs < 2 ^ 63)
def mPop (ds : List PyData) : List PyData → Option (B × List PyData)
  | [] => (ds[ds.length - 1]?).map fun d => (.fr d, ds.dropLast)
  | [.int i] => if lim63 i = true then (seqIndex? i ds.length).bind fun k => (ds[k]?).map fun d => (.fr d, ds.eraseIdx k) else none
  | _ => none
def mInsert (ds : List PyData) : List PyData → Option (B × List PyData)
  | [.int i, d] => if 0 ≤ i ∧ i.natAbs < 2 ^ 62 ∧ ds.length < big then some (.fr .none, ds.take i.toNat ++ [d] ++ ds.drop i.toNat) else none
  | _ => none
def mReverse (ds : List PyData) : List PyData → Option (B × List PyData)
  | [] => some (.fr .none, ds.reverse)
  | _ => none
def mClear (_ : List PyData) : List PyData → Option (B × List PyData)
  | [] => some (.fr .none, [])
  | _ => none
def mRemove (ds : List PyData) : List PyData → Option (B × List PyData)
  | [d] => if SeqAt.shaped d = true ∧ SeqAt.shaped (.list ds) = true then (SeqAt.dataPlace ds d).map fun j => (.fr .none, ds.eraseIdx j) else none
  | _ => none
/-- x.m(..), read alone: x any list -/
def fMthR (g : List PyData → List PyData → Option B) (fx : FE) (fd : FD) : FE := fun e => bnd (fx e) fun o e1 => match res e1 o with
  | some (.list _) => bnd (fd e1) fun as e2 => match res e2 o with
    | some (.list ds) => (g ds as).bind fun b => some (.ok (.b b) e2)
    | _ => none
  | _ => none
def mIndex (ds : List PyData) : List PyData → Option B
  | [d] => if SeqAt.shaped d = true ∧ SeqAt.shaped (.list ds) = true then (SeqAt.dataPlace ds d).map fun j => .fr (.int j) else none
  | _ => none
def mCount (ds : List PyData) : List PyData → Option B
  | [d] => if SeqAt.shaped d = true ∧ SeqAt.shaped (.list ds) = true ∧ ds.length ≤ big then some (.fr (.int (ds.countP fun y => PyData.eqv y d))) else none
  | _ => none
/-- x[f] = .., x in slot i -/
def putAt (i : Nat) (f : FE) (d : PyData) : Env → Option (Out Unit) := fun e => match at? e i with
  | none => none
  | some _ => bnd (f e) fun o e1 => match res e1 o, at? e1 i with
    | some (.int k), some (.ow ds) => (ixN ds.length k).bind fun j => some (.ok () (e1.set i (some (.ow (ds.set j d)))))
    | _, _ => none
def sPut (i : Nat) (fx fv : FE) : FS := fun e => bndS (fv e) fun o e1 => (fz e1 o).bind fun p => bndS (putAt i fx p.1 p.2) fun _ e2 => some (.nx e2)
/-- x[a], y[b] = u, v -/
def sPut2 (i : Nat) (fx : FE) (j : Nat) (fy : FE) (fd : FD) : FS := fun e => bndS (fd e) fun ds e1 => match ds with
  | [a, b] => bndS (putAt i fx a e1) fun _ e2 => bndS (putAt j fy b e2) fun _ e3 => some (.nx e3)
  | _ => none
/-- x op= e -/
def sAug (i : Nat) (op : PyData → PyData → Option B) (f : FE) : FS := fun e => match at? e i with
  | some (.fr d0) => bndS (f e) fun o e1 => match res e1 o with
    | some d => match op d0 d with
      | some (.fr z) => some (.nx (e1.set i (some (.fr z))))
      | _ => none
    | none => none
  | _ => none
/-- x[f] op= e -/
def sAugAt (i : Nat) (op : PyData → PyData → Option B) (fx fv : FE) : FS := fun e => match at? e i with
  | none => none
  | some _ => bndS (fx e) fun o e1 => match res e1 o, at? e1 i with
    | some (.int k), some (.ow ds) => (ixN ds.length k).bind fun j => (ds[j]?).bind fun old => bndS (fv e1) fun o2 e2 => match res e2 o2, at? e2 i with
      | some d, some (.ow ds2) => (op old d).bind fun z => match z with
        | .fr z => (ixN ds2.length k).bind fun j2 => some (.nx (e2.set i (some (.ow (ds2.set j2 z)))))
        | _ => none
      | _, _ => none
    | _, _ => none
/-- x, y = u, v (names of the frame's own) -/
def sPar (i j : Nat) (fd : FD) : FS := fun e => bndS (fd e) fun ds e1 => match ds with
  | [a, b] => some (.nx ((e1.set i (some (.fr a))).set j (some (.fr b))))
  | _ => none
/-- a target takes the value -/
def sTgt (g : FG) (f : FE) : FS := fun e => bndS (f e) fun o e1 => (fz e1 o).bind fun p => (g p.1 p.2).bind fun e2 => some (.nx e2)
end VL

set_option maxRecDepth 100000
/-! VL1: what the heap must say of an environment; what it is for a function to tell an expression, a statement. -/
namespace VL
open PySem L2

/-! ### data in a heap -/
def kP : Key → PyData
  | .inl i => .int i
  | .inr x => .str x
mutual
inductive Rp (K : PySem.W.Frag) (G : Hp) : V → PyData → Prop
  | non : Rp K G .non .none
  | bl (b : Bool) : Rp K G (.bl b) (.bool b)
  | int (i : Int) : Rp K G (.int i) (.int i)
  | str (x : Str) : Rp K G (.str x) (.str x)
  | lst {a : Addr} {xs : List V} {ds : List PyData} : G a = some (.lst xs) → RpAll K G xs ds → Rp K G (.ref a) (.list ds)
  | tup {a : Addr} {xs : List V} {ds : List PyData} : G a = some (.tup xs) → RpAll K G xs ds → Rp K G (.ref a) (.tuple ds)
  | dic {a : Addr} {ks : List (Key × V)} {ds : List (PyData × PyData)} : G a = some (.dK ks) → ks.map (fun p => kP p.1) = ds.map (·.1) → RpAll K G (ks.map (·.2)) (ds.map (·.2)) → Rp K G (.ref a) (.dict ds)
inductive RpAll (K : PySem.W.Frag) (G : Hp) : List V → List PyData → Prop
  | nil : RpAll K G [] []
  | cons {v : V} {vs : List V} {d : PyData} {ds : List PyData} : Rp K G v d → RpAll K G vs ds → RpAll K G (v :: vs) (d :: ds)
end
theorem sameT {K : PySem.W.Frag} {H H' : Hp} {a : Addr} {xs : List V} (e : Same H H') (h : SqT K H a xs) : SqT K H' a xs := by
  rcases h with (h | ⟨o, h⟩) | h
  · exact .inl (.inl (e _ _ h))
  · exact .inl (.inr ⟨o, e _ _ h⟩)
  · exact .inr h
section
variable {K : PySem.W.Frag} {G G' : Hp}
mutual
theorem Rp.mono (e : Same G G') : ∀ {v : V} {d : PyData}, Rp K G v d → Rp K G' v d
  | _, _, .non => .non
  | _, _, .bl b => .bl b
  | _, _, .int i => .int i
  | _, _, .str x => .str x
  | _, _, .lst h a => .lst (e _ _ h) (RpAll.mono e a)
  | _, _, .tup h a => .tup (e _ _ h) (RpAll.mono e a)
  | _, _, .dic h k a => .dic (e _ _ h) k (RpAll.mono e a)
theorem RpAll.mono (e : Same G G') : ∀ {vs : List V} {ds : List PyData}, RpAll K G vs ds → RpAll K G' vs ds
  | _, _, .nil => .nil
  | _, _, .cons h t => .cons (Rp.mono e h) (RpAll.mono e t)
end
theorem RpAll.length : ∀ {vs : List V} {ds : List PyData}, RpAll K G vs ds → vs.length = ds.length
  | _, _, .nil => rfl
  | _, _, .cons _ t => by rw [List.length_cons, List.length_cons, RpAll.length t]
theorem RpAll.append : ∀ {vs ws : List V} {ds es : List PyData}, RpAll K G vs ds → RpAll K G ws es → RpAll K G (vs ++ ws) (ds ++ es)
  | _, _, _, _, .nil, k => k
  | _, _, _, _, .cons h t, k => .cons h (RpAll.append t k)
theorem RpAll.get : ∀ {vs : List V} {ds : List PyData} {i : Nat} {d : PyData}, RpAll K G vs ds → ds[i]? = some d → ∃ v, vs[i]? = some v ∧ Rp K G v d
  | _, _, _, _, .nil, e => by simp at e
  | _, _, 0, _, .cons r _, e => by simp at e; subst e; exact ⟨_, rfl, r⟩
  | _, _, i + 1, d, .cons _ t, e => by
    obtain ⟨u, h1, h2⟩ := RpAll.get (i := i) (d := d) t (by simpa using e)
    exact ⟨u, by simpa using h1, h2⟩
theorem RpAll.getV : ∀ {vs : List V} {ds : List PyData} {i : Nat} {v : V}, RpAll K G vs ds → vs[i]? = some v → ∃ d, ds[i]? = some d ∧ Rp K G v d
  | _, _, _, _, .nil, e => by simp at e
  | _, _, 0, _, .cons r _, e => by simp at e; subst e; exact ⟨_, rfl, r⟩
  | _, _, i + 1, v, .cons _ t, e => by
    obtain ⟨u, h1, h2⟩ := RpAll.getV (i := i) (v := v) t (by simpa using e)
    exact ⟨u, by simpa using h1, h2⟩
theorem RpAll.set {v : V} {d : PyData} (r : Rp K G v d) : ∀ {vs : List V} {ds : List PyData} (i : Nat), RpAll K G vs ds → RpAll K G (vs.set i v) (ds.set i d)
  | _, _, _, .nil => .nil
  | _, _, 0, .cons _ t => .cons r t
  | _, _, i + 1, .cons q t => .cons q (RpAll.set r i t)
theorem RpAll.take : ∀ {vs : List V} {ds : List PyData} (n : Nat), RpAll K G vs ds → RpAll K G (vs.take n) (ds.take n)
  | _, _, 0, _ => .nil
  | _, _, _ + 1, .nil => .nil
  | _, _, n + 1, .cons r t => .cons r (RpAll.take n t)
theorem RpAll.drop : ∀ {vs : List V} {ds : List PyData} (n : Nat), RpAll K G vs ds → RpAll K G (vs.drop n) (ds.drop n)
  | _, _, 0, r => r
  | _, _, _ + 1, .nil => .nil
  | _, _, n + 1, .cons _ t => RpAll.drop n t
theorem RpAll.eraseIdx : ∀ {vs : List V} {ds : List PyData} (n : Nat), RpAll K G vs ds → RpAll K G (vs.eraseIdx n) (ds.eraseIdx n)
  | _, _, _, .nil => .nil
  | _, _, 0, .cons _ t => t
  | _, _, n + 1, .cons r t => .cons r (RpAll.eraseIdx n t)
theorem RpAll.reverse {vs : List V} {ds : List PyData} (h : RpAll K G vs ds) : RpAll K G vs.reverse ds.reverse := by
  have go : ∀ {vs : List V} {ds : List PyData}, RpAll K G vs ds → ∀ {ws : List V} {es : List PyData}, RpAll K G ws es → RpAll K G (vs.reverse ++ ws) (ds.reverse ++ es) := by
    intro vs
    induction vs with
    | nil => intro ds h ws es k; cases h; exact k
    | cons v vs ih =>
      intro ds h ws es k
      cases h with
      | cons h1 h2 =>
        rw [List.reverse_cons, List.reverse_cons, List.append_assoc, List.append_assoc]
        exact ih h2 (.cons h1 k)
  have z := go h .nil
  rwa [List.append_nil, List.append_nil] at z
mutual
/-- without dicts it is the kit's Dp -/
theorem Rp.dp : ∀ {v : V} (d : PyData), d.canLay0 = true → Rp K G v d → Dp K G v d
  | _, .none, _, .non => .non
  | _, .bool _, _, .bl b => .bl b
  | _, .int _, _, .int i => .int i
  | _, .str _, _, .str x => .str x
  | _, .list ds, c, .lst h a => .lst (.of h) (RpAll.dp ds (by simpa [PyData.canLay0] using c) a)
  | _, .tuple ds, c, .tup h a => .tup (.of h) (RpAll.dp ds (by simpa [PyData.canLay0] using c) a)
  | _, .dict _, c, _ => by simp [PyData.canLay0] at c
theorem RpAll.dp : ∀ {vs : List V} (ds : List PyData), PyData.canLayAll0 ds = true → RpAll K G vs ds → DpAll K G vs ds
  | _, [], _, .nil => .nil
  | _, d :: ds, c, .cons h t => by
    have c' : d.canLay0 = true ∧ PyData.canLayAll0 ds = true := by simpa [PyData.canLayAll0] using c
    exact .cons (Rp.dp d c'.1 h) (RpAll.dp ds c'.2 t)
end
end

/-! ### things of one's own, told by data -/
structure Res where
  rep : PySem.W.Frag → Hp → Hp → V → PyData → (Addr → Prop) → Prop
  frame : ∀ {K : PySem.W.Frag} {G H G' H' : Hp} {v : V} {d : PyData} {fp : Addr → Prop}, rep K G H v d fp → Same G G' → (∀ a, fp a → H' a = H a ∧ G' a = G a) → rep K G' H' v d fp
  own : ∀ {K : PySem.W.Frag} {G H : Hp} {v : V} {d : PyData} {fp : Addr → Prop}, rep K G H v d fp → ∀ a, fp a → G a = none ∧ ∃ o, H a = some o
structure Cc where
  K : PySem.W.Frag
  mg : Str → Option Value
  rho : Nat → Res
/-- an exception of the class at A, that is held -/
def XO (A p : Addr) : HO := .ext fun h => ∃ (oe : Obj) (vs : Array Value), h.get? p = some oe ∧ Zc (.ref A) none oe ∧ oe.data = .fields vs
structure WS where
  G : Hp
  H : Hp
  fp : Nat → Addr → Prop
def BOk (C : Cc) (G H : Hp) : B → V → (Addr → Prop) → Prop
  | .fr d, v, fp => Rp C.K G v d ∧ ∀ a, ¬ fp a
  | .ow ds, v, fp => ∃ p xs, v = .ref p ∧ G p = none ∧ H p = some (.lst xs) ∧ RpAll C.K G xs ds ∧ ∀ a, fp a ↔ a = p
  | .od ds, v, fp => ∃ p ks, v = .ref p ∧ G p = none ∧ H p = some (.dK ks) ∧ ks.map (fun q => kP q.1) = ds.map (·.1) ∧ RpAll C.K G (ks.map (·.2)) (ds.map (·.2)) ∧ ∀ a, fp a ↔ a = p
  | .ex c, v, fp => (∃ p A, v = .ref p ∧ C.mg c = some (.ref A) ∧ G p = some (XO A p)) ∧ ∀ a, ¬ fp a
  | .rs k d, v, fp => (C.rho k).rep C.K G H v d fp
  | .sc ns, v, fp => (∃ p, v = .ref p ∧ SqL C.K G p (ns.map V.int)) ∧ ∀ a, ¬ fp a
section
variable {C : Cc} {G H G' H' : Hp} {b : B} {v : V} {fp : Addr → Prop}
theorem BOk.own (h : BOk C G H b v fp) : ∀ a, fp a → G a = none ∧ ∃ o, H a = some o := by
  cases b with
  | fr d => exact fun a q => absurd q (h.2 a)
  | ow ds =>
    obtain ⟨p, xs, _, h1, h2, _, h3⟩ := h
    intro a q
    obtain rfl := (h3 a).mp q
    exact ⟨h1, _, h2⟩
  | od ds =>
    obtain ⟨p, xs, _, h1, h2, _, _, h3⟩ := h
    intro a q
    obtain rfl := (h3 a).mp q
    exact ⟨h1, _, h2⟩
  | ex c => exact fun a q => absurd q (h.2 a)
  | rs k d => exact (C.rho k).own h
  | sc ns => exact fun a q => absurd q (h.2 a)
theorem BOk.mono (h : BOk C G H b v fp) (e : Same G G') (k : ∀ a, fp a → H' a = H a ∧ G' a = G a) : BOk C G' H' b v fp := by
  cases b with
  | fr d => exact ⟨h.1.mono e, h.2⟩
  | ow ds =>
    obtain ⟨p, xs, e0, h1, h2, h4, h3⟩ := h
    have q := k p ((h3 p).mpr rfl)
    exact ⟨p, xs, e0, q.2.trans h1, q.1.trans h2, h4.mono e, h3⟩
  | od ds =>
    obtain ⟨p, xs, e0, h1, h2, h4, h5, h3⟩ := h
    have q := k p ((h3 p).mpr rfl)
    exact ⟨p, xs, e0, q.2.trans h1, q.1.trans h2, h4, h5.mono e, h3⟩
  | ex c =>
    obtain ⟨⟨p, A, h1, h2, h3⟩, h4⟩ := h
    exact ⟨⟨p, A, h1, h2, e _ _ h3⟩, h4⟩
  | rs n d => exact (C.rho n).frame h e k
  | sc ns =>
    obtain ⟨⟨p, h1, h2⟩, h4⟩ := h
    exact ⟨⟨p, h1, e.seq h2⟩, h4⟩
end
/-- read in H, its items in G -/
def Rq (K : PySem.W.Frag) (G H : Hp) (v : V) : PyData → Prop
  | .none => v = .non
  | .bool b => v = .bl b
  | .int i => v = .int i
  | .str x => v = .str x
  | .list ds => ∃ a xs, v = .ref a ∧ H a = some (.lst xs) ∧ RpAll K G xs ds
  | .tuple ds => ∃ a xs, v = .ref a ∧ G a = some (.tup xs) ∧ RpAll K G xs ds
  | .dict ds => ∃ a ks, v = .ref a ∧ H a = some (.dK ks) ∧ ks.map (fun p => kP p.1) = ds.map (·.1) ∧ RpAll K G (ks.map (·.2)) (ds.map (·.2))
section
variable {K : PySem.W.Frag} {G H : Hp} {v : V} {d : PyData}
theorem Rq.rp (h : Rq K G H v d) (s : Same G H) : Rp K H v d := by
  cases d with
  | none => cases h; exact .non
  | bool b => cases h; exact .bl b
  | int i => cases h; exact .int i
  | str x => cases h; exact .str x
  | list ds =>
    obtain ⟨a, xs, rfl, h1, h2⟩ := h
    exact .lst h1 (h2.mono s)
  | tuple ds =>
    obtain ⟨a, xs, rfl, h1, h2⟩ := h
    exact .tup (s _ _ h1) (h2.mono s)
  | dict ds =>
    obtain ⟨a, xs, rfl, h1, h2, h3⟩ := h
    exact .dic h1 h2 (h3.mono s)
theorem Rp.rq (h : Rp K G v d) (s : Same G H) : Rq K G H v d := by
  cases h with
  | non => rfl
  | bl b => rfl
  | int i => rfl
  | str x => rfl
  | lst h1 h2 => exact ⟨_, _, rfl, s _ _ h1, h2⟩
  | tup h1 h2 => exact ⟨_, _, rfl, h1, h2⟩
  | dic h1 h2 h3 => exact ⟨_, _, rfl, s _ _ h1, h2, h3⟩
theorem BOk.dat {C : Cc} {b : B} {fp : Addr → Prop} (h : BOk C G H b v fp) (s : Same G H) (hd : b.dat = some d) : Rq C.K G H v d := by
  cases b with
  | fr d' => cases hd; exact h.1.rq s
  | ow ds =>
    cases hd
    obtain ⟨p, xs, rfl, h1, h2, h4, h3⟩ := h
    exact ⟨p, xs, rfl, h2, h4⟩
  | od ds =>
    cases hd
    obtain ⟨p, xs, rfl, h1, h2, h4, h5, h3⟩ := h
    exact ⟨p, xs, rfl, h2, h4, h5⟩
  | ex c => cases hd
  | rs n d' => cases hd
  | sc ns => cases hd
end

structure Mt (C : Cc) (π : List (Nat × V)) (e : Env) (σ : St) (w : WS) : Prop where
  len : e.length = σ.length
  sub : Same w.G w.H
  bok : ∀ i b, at? e i = some b → ∃ v, σ[i]? = some (some v) ∧ BOk C w.G w.H b v (w.fp i)
  non : ∀ i, at? e i = none → ∀ a, ¬ w.fp i a
  dis : ∀ i j a, w.fp i a → w.fp j a → i = j
  pin : ∀ p ∈ π, σ[p.1]? = some (some p.2)
structure Frm (w w' : WS) : Prop where
  g : Same w.G w'.G
  k : ∀ a o, w.H a = some o → (∀ i, ¬ w.fp i a) → w'.H a = some o ∧ w'.G a = w.G a ∧ ∀ i, ¬ w'.fp i a
  t : ∀ a, w'.H a = none → w.H a = none
theorem Frm.refl (w : WS) : Frm w w := ⟨Same.refl _, fun _ _ h n => ⟨h, rfl, n⟩, fun _ h => h⟩
theorem Frm.trans {w w1 w2 : WS} (a : Frm w w1) (b : Frm w1 w2) : Frm w w2 := by
  refine ⟨a.g.trans b.g, fun p o h n => ?_, fun p h => a.t p (b.t p h)⟩
  obtain ⟨h1, h2, h3⟩ := a.k p o h n
  obtain ⟨k1, k2, k3⟩ := b.k p o h1 h3
  exact ⟨k1, k2.trans h2, k3⟩
/-- what is new, or a name's own -/
theorem Frm.back {w w1 : WS} (f : Frm w w1) {a : Addr} (h : w1.H a = none ∨ ∃ i, w1.fp i a) : w.H a = none ∨ ∃ i, w.fp i a := by
  cases q : w.H a with
  | none => exact .inl rfl
  | some o =>
    by_cases hn : ∃ i, w.fp i a
    · exact .inr hn
    · obtain ⟨h1, h2, h3⟩ := f.k a o q fun i z => hn ⟨i, z⟩
      rcases h with h | ⟨i, h⟩
      · rw [h] at h1; cases h1
      · exact absurd h (h3 i)
theorem Mt.own {C : Cc} {π : List (Nat × V)} {e : Env} {σ : St} {w : WS} (m : Mt C π e σ w) {i : Nat} {a : Addr} (h : w.fp i a) : w.G a = none ∧ ∃ o, w.H a = some o := by
  cases q : at? e i with
  | none => exact absurd h (m.non i q a)
  | some b =>
    obtain ⟨v, _, k⟩ := m.bok i b q
    exact k.own a h

def OOk (C : Cc) (σ : St) (w w' : WS) : O → V → Prop
  | .s i, v => σ[i]? = some (some v)
  | .b b, v => ∃ fp : Addr → Prop, BOk C w'.G w'.H b v fp ∧ ∀ a, fp a → (w.H a = none ∨ ∃ i, w.fp i a) ∧ ∀ i, ¬ w'.fp i a
section
variable {C : Cc} {σ : St} {w w1 w2 w' : WS} {o : O} {v : V}
theorem OOk.step (h : OOk C σ w w1 o v) (f : Frm w1 w2) : OOk C σ w w2 o v := by
  cases o with
  | s i => exact h
  | b b =>
    obtain ⟨fp, h1, h2⟩ := h
    refine ⟨fp, h1.mono f.g fun a ha => ?_, fun a ha => ?_⟩
    · obtain ⟨hg, o, ho⟩ := h1.own a ha
      obtain ⟨k1, k2, k3⟩ := f.k a o ho (h2 a ha).2
      exact ⟨k1.trans ho.symm, k2⟩
    · obtain ⟨hg, o, ho⟩ := h1.own a ha
      exact ⟨(h2 a ha).1, (f.k a o ho (h2 a ha).2).2.2⟩
theorem OOk.base (h : OOk C σ w1 w' o v) (f : Frm w w1) : OOk C σ w w' o v := by
  cases o with
  | s i => exact h
  | b b =>
    obtain ⟨fp, h1, h2⟩ := h
    exact ⟨fp, h1, fun a ha => ⟨f.back (h2 a ha).1, (h2 a ha).2⟩⟩
theorem OOk.fr {d : PyData} (h : Rp C.K w'.G v d) : OOk C σ w w' (.b (.fr d)) v := ⟨fun _ => False, ⟨h, fun _ z => z⟩, fun _ z => z.elim⟩
end

/-- what follows a part -/
def Post {α β : Type} (C : Cc) (W : WX) (π : List (Nat × V)) (σ : St) (w : WS) (r : Option (Out α)) (rel : WS → α → β → Prop) (Q : β → Hp → Prop) : Prop := match r with
  | none => False
  | some (.ok a e) => ∀ b w', Mt C π e σ w' → Frm w w' → rel w' a b → Q b w'.H
  | some (.ex c e) => ∀ w' A, C.mg c = some (.ref A) → Mt C π e σ w' → Frm w w' → W (.ref A) none σ w'.H
section
variable {C : Cc} {W : WX} {π : List (Nat × V)} {σ : St} {w w1 : WS} {α β α' β' : Type} {r : Option (Out α)} {rel : WS → α → β → Prop} {Q : β → Hp → Prop} {rel' : WS → α' → β' → Prop} {Q' : β' → Hp → Prop} {k : α → Env → Option (Out α')}
theorem Post.from (h : Post C W π σ w r rel Q) (f : Frm w w1) : Post C W π σ w1 r rel Q := by
  cases r with
  | none => exact h
  | some x =>
    cases x with
    | ok a e => exact fun b w' m f' q => h b w' m (f.trans f') q
    | ex c e => exact fun w' A hA m f' => h w' A hA m (f.trans f')
theorem Post.reb {r : Option (Out O)} {Q : VK} (f : Frm w w1) (h : Post C W π σ w r (OOk C σ w) Q) : Post C W π σ w1 r (OOk C σ w1) Q := by
  cases r with
  | none => exact h
  | some x =>
    cases x with
    | ok a e => exact fun b w' m f' q => h b w' m (f.trans f') (q.base f)
    | ex c e => exact fun w' A hA m f' => h w' A hA m (f.trans f')
theorem Post.bnd (h : Post C W π σ w (bnd r k) rel' Q') (hk : ∀ a e b w1, Mt C π e σ w1 → Frm w w1 → rel w1 a b → Post C W π σ w (k a e) rel' Q' → Q b w1.H) : Post C W π σ w r rel Q := by
  cases r with
  | none => exact h
  | some x =>
    cases x with
    | ok a e => exact fun b w' m f q => hk a e b w' m f q h
    | ex c e => exact h
end

/-- f tells the expression of the reading t -/
def SE (C : Cc) (W : WX) (t : TE) (f : FE) : Prop := ∀ π env σ w Q, Mt C π env σ w → Post C W π σ w (f env) (OOk C σ w) Q → t σ w.H Q
def SD (C : Cc) (W : WX) (t : TA) (f : FD) : Prop := ∀ π env σ w Q, Mt C π env σ w → Post C W π σ w (f env) (fun w' ds vs => RpAll C.K w'.G vs ds) Q → t σ w.H Q
def SA (C : Cc) (W : WX) (t : TA) (f : FA) : Prop := ∀ π env σ w Q, Mt C π env σ w → Post C W π σ w (f env) (fun w' os vs => Paired (OOk C σ w w') os vs) Q → t σ w.H Q
def ST (C : Cc) (W : WX) (t : TT) (f : FT) : Prop := ∀ π env σ w Q, Mt C π env σ w → Post C W π σ w (f env) (fun _ b b' => b = b') Q → t σ w.H Q
def PostS (C : Cc) (W : WX) (π : List (Nat × V)) (w : WS) (r : Option SO) (D : Ends) : Prop := match r with
  | none => False
  | some (.nx e) => ∀ σ' w', Mt C π e σ' w' → Frm w w' → D.nx σ' w'.H
  | some (.rt b e) => ∀ v σ' w', Mt C π e σ' w' → Frm w w' → OOk C σ' w w' (.b b) v → D.rt v w'.H
  | some (.bk e) => ∀ σ' w', Mt C π e σ' w' → Frm w w' → D.bk σ' w'.H
  | some (.ct e) => ∀ σ' w', Mt C π e σ' w' → Frm w w' → D.ct σ' w'.H
  | some (.ex c e) => ∀ σ' w' A, C.mg c = some (.ref A) → Mt C π e σ' w' → Frm w w' → W (.ref A) none σ' w'.H
def SS (C : Cc) (W : WX) (pn : List Nat) (t : TS) (g : FS) : Prop := ∀ π env σ w D, (∀ p ∈ π, p.1 ∈ pn) → Mt C π env σ w → PostS C W π w (g env) D → t D σ w.H
section
variable {C : Cc} {W : WX} {π : List (Nat × V)} {σ : St} {w w1 : WS} {α β : Type} {r : Option (Out α)} {rel : WS → α → β → Prop} {Q : β → Hp → Prop} {D : Ends} {k : α → Env → Option SO}
theorem PostS.from {r : Option SO} (h : PostS C W π w r D) (f : Frm w w1) : PostS C W π w1 r D := by
  cases r with
  | none => exact h
  | some x =>
    cases x with
    | nx e => exact fun σ' w' m f' => h σ' w' m (f.trans f')
    | rt b e => exact fun v σ' w' m f' q => h v σ' w' m (f.trans f') (q.base f)
    | bk e => exact fun σ' w' m f' => h σ' w' m (f.trans f')
    | ct e => exact fun σ' w' m f' => h σ' w' m (f.trans f')
    | ex c e => exact fun σ' w' A hA m f' => h σ' w' A hA m (f.trans f')
theorem PostS.bnd (h : PostS C W π w (bndS r k) D) (hk : ∀ a e b w1, Mt C π e σ w1 → Frm w w1 → rel w1 a b → PostS C W π w (k a e) D → Q b w1.H) : Post C W π σ w r rel Q := by
  cases r with
  | none => exact h.elim
  | some x =>
    cases x with
    | ok a e => exact fun b w' m f q => hk a e b w' m f q h
    | ex c e => exact fun w' A hA m f => h σ w' A hA m f
end

/-! ### worlds made from worlds -/
section
variable {C : Cc} {π : List (Nat × V)} {e : Env} {σ : St} {w w0 : WS} {p : Addr} {o : HO}
/-- a new object -/
def WS.new (w : WS) (p : Addr) (o : HO) : WS := { w with H := upd w.H p o }
theorem Mt.new (m : Mt C π e σ w) (hp : w.H p = none) : Mt C π e σ (w.new p o) := by
  have hG : w.G p = none := m.sub.free hp
  refine ⟨m.len, fun a u q => ?_, fun i b q => ?_, m.non, m.dis, m.pin⟩
  · show upd w.H p o a = some u
    rw [upd_ne (ne_of_none q hG)]
    exact m.sub a u q
  · obtain ⟨v, h1, h2⟩ := m.bok i b q
    refine ⟨v, h1, h2.mono (Same.refl _) fun a ha => ⟨?_, rfl⟩⟩
    obtain ⟨_, u, hu⟩ := h2.own a ha
    exact upd_ne (ne_of_none hu hp)
theorem Frm.new (hp : w.H p = none) : Frm w (w.new p o) := by
  refine ⟨Same.refl _, fun a u h n => ⟨?_, rfl, n⟩, fun a h => ?_⟩
  · show upd w.H p o a = some u
    rw [upd_ne (ne_of_none h hp)]
    exact h
  · by_cases z : a = p
    · rw [z]; exact hp
    · have h' : upd w.H p o a = none := h
      rw [upd_ne z] at h'
      exact h'
/-- a thing at p, not owned by a name, frozen -/
def WS.frz (w : WS) (p : Addr) (o : HO) : WS := { w with G := upd w.G p o }
theorem Mt.frz (m : Mt C π e σ w) (hp : w.H p = some o) (hG : w.G p = none) (hn : ∀ i, ¬ w.fp i p) : Mt C π e σ (w.frz p o) := by
  have sG : Same w.G (upd w.G p o) := fun a u q => by rw [upd_ne (ne_of_none q hG)]; exact q
  refine ⟨m.len, fun a u q => ?_, fun i b q => ?_, m.non, m.dis, m.pin⟩
  · have q' : upd w.G p o a = some u := q
    by_cases z : a = p
    · subst z
      rw [upd_same] at q'
      cases q'
      exact hp
    · rw [upd_ne z] at q'
      exact m.sub a u q'
  · obtain ⟨v, h1, h2⟩ := m.bok i b q
    refine ⟨v, h1, h2.mono sG fun a ha => ⟨rfl, upd_ne fun z => hn i (by rw [← z]; exact ha)⟩⟩
theorem Frm.frz (f : Frm w0 w) (hp : w0.H p = none ∨ ∃ i, w0.fp i p) (hG : w.G p = none) : Frm w0 (w.frz p o) := by
  refine ⟨fun a u q => ?_, fun a u h n => ?_, f.t⟩
  · show upd w.G p o a = some u
    rw [upd_ne (ne_of_none (f.g a u q) hG)]
    exact f.g a u q
  · obtain ⟨h1, h2, h3⟩ := f.k a u h n
    refine ⟨h1, ?_, h3⟩
    show upd w.G p o a = w0.G a
    have ne : a ≠ p := fun z => by
      subst z
      rcases hp with hp | ⟨i, hp⟩
      · rw [hp] at h; cases h
      · exact n i hp
    rw [upd_ne ne]
    exact h2
/-- the thing at p, owned by the name i, frozen -/
def WS.frzO (w : WS) (i : Nat) (p : Addr) (o : HO) : WS := { w with G := upd w.G p o, fp := fun j a => w.fp j a ∧ j ≠ i }
theorem at_set_same {e : Env} {i : Nat} {x : Option B} {b : B} (h : at? e i = some b) : at? (e.set i x) i = x := by
  unfold at? at h ⊢
  have hi : i < e.length := by
    cases q : e[i]? with
    | none => rw [q] at h; cases h
    | some y => exact (List.getElem?_eq_some_iff.mp q).1
  rw [List.getElem?_set_self hi]
theorem at_set_lt {e : Env} {i : Nat} {x : Option B} (hi : i < e.length) : at? (e.set i x) i = x := by
  unfold at?
  rw [List.getElem?_set_self hi]
theorem at_set_ne {e : Env} {i j : Nat} {x : Option B} (h : i ≠ j) : at? (e.set i x) j = at? e j := by
  unfold at?
  rw [List.getElem?_set_ne h]
theorem Mt.frzO {i : Nat} {b b' : B} {v : V} (m : Mt C π e σ w) (hb : at? e i = some b) (hv : σ[i]? = some (some v)) (hp : w.H p = some o) (hG : w.G p = none) (hf : ∀ a, w.fp i a ↔ a = p) (hb' : BOk C (upd w.G p o) w.H b' v fun _ => False) :
    Mt C π (e.set i (some b')) σ (w.frzO i p o) := by
  have sG : Same w.G (upd w.G p o) := fun a u q => by rw [upd_ne (ne_of_none q hG)]; exact q
  refine ⟨by rw [List.length_set]; exact m.len, fun a u q => ?_, fun j c q => ?_, fun j q a z => ?_, fun j k a h1 h2 => m.dis j k a h1.1 h2.1, m.pin⟩
  · have q' : upd w.G p o a = some u := q
    by_cases z : a = p
    · subst z
      rw [upd_same] at q'
      cases q'
      exact hp
    · rw [upd_ne z] at q'
      exact m.sub a u q'
  · by_cases hj : i = j
    · subst hj
      rw [at_set_same hb] at q
      cases q
      refine ⟨v, hv, ?_⟩
      have e1 : (w.frzO i p o).fp i = fun _ => False := by
        funext a
        exact propext ⟨fun z => z.2 rfl, fun z => z.elim⟩
      rw [e1]
      exact hb'
    · rw [at_set_ne hj] at q
      obtain ⟨u, h1, h2⟩ := m.bok j c q
      have e1 : (w.frzO i p o).fp j = w.fp j := by
        funext a
        exact propext ⟨fun z => z.1, fun z => ⟨z, fun q => hj q.symm⟩⟩
      rw [e1]
      refine ⟨u, h1, h2.mono sG fun a ha => ⟨rfl, upd_ne fun z => ?_⟩⟩
      subst z
      exact hj (m.dis i j a ((hf a).mpr rfl) ha)
  · by_cases hj : i = j
    · subst hj
      exact z.2 rfl
    · rw [at_set_ne hj] at q
      exact m.non j q a z.1
theorem Frm.frzO {i : Nat} (f : Frm w0 w) (hG : w.G p = none) (hf : w.fp i p) : Frm w0 (w.frzO i p o) := by
  refine ⟨fun a u q => ?_, fun a u h n => ?_, f.t⟩
  · show upd w.G p o a = some u
    rw [upd_ne (ne_of_none (f.g a u q) hG)]
    exact f.g a u q
  · obtain ⟨h1, h2, h3⟩ := f.k a u h n
    refine ⟨h1, ?_, fun j z => h3 j z.1⟩
    show upd w.G p o a = w0.G a
    rw [upd_ne fun z => h3 i (by rw [z]; exact hf)]
    exact h2
end

/-! ### freezing -/
theorem fz_sound {C : Cc} {π : List (Nat × V)} {e e' : Env} {σ : St} {w0 w : WS} {o : O} {v : V} {d : PyData} (m : Mt C π e σ w) (f : Frm w0 w) (h : OOk C σ w0 w o v) (hz : fz e o = some (d, e')) :
    ∃ w', Mt C π e' σ w' ∧ Frm w0 w' ∧ w'.H = w.H ∧ Rp C.K w'.G v d := by
  cases o with
  | s i =>
    have hv : σ[i]? = some (some v) := h
    unfold fz at hz
    cases q : at? e i with
    | none => simp [q] at hz
    | some b =>
      obtain ⟨u, h1, h2⟩ := m.bok i b q
      rw [hv] at h1
      cases h1
      cases b with
      | fr d' =>
        simp only [q] at hz
        cases hz
        exact ⟨w, m, f, rfl, h2.1⟩
      | ow ds =>
        simp only [q] at hz
        cases hz
        obtain ⟨p, xs, rfl, g1, g2, g4, g3⟩ := h2
        have sG : Same w.G (upd w.G p (.lst xs)) := fun a u q => by rw [upd_ne (ne_of_none q g1)]; exact q
        have r : Rp C.K (upd w.G p (.lst xs)) (.ref p) (.list ds) := .lst upd_same (g4.mono sG)
        exact ⟨w.frzO i p (.lst xs), m.frzO q hv g2 g1 g3 ⟨r, fun _ z => z⟩, f.frzO g1 ((g3 p).mpr rfl), rfl, r⟩
      | od ds =>
        simp only [q] at hz
        cases hz
        obtain ⟨p, xs, rfl, g1, g2, g4, g5, g3⟩ := h2
        have sG : Same w.G (upd w.G p (.dK xs)) := fun a u q => by rw [upd_ne (ne_of_none q g1)]; exact q
        have r : Rp C.K (upd w.G p (.dK xs)) (.ref p) (.dict ds) := .dic upd_same g4 (g5.mono sG)
        exact ⟨w.frzO i p (.dK xs), m.frzO q hv g2 g1 g3 ⟨r, fun _ z => z⟩, f.frzO g1 ((g3 p).mpr rfl), rfl, r⟩
      | ex c => simp [q] at hz
      | rs n d' => simp [q] at hz
      | sc ns => simp [q] at hz
  | b b =>
    obtain ⟨fp, h1, h2⟩ := h
    cases b with
    | fr d' =>
      cases hz
      exact ⟨w, m, f, rfl, h1.1⟩
    | ow ds =>
      cases hz
      obtain ⟨p, xs, rfl, g1, g2, g4, g3⟩ := h1
      have hp := h2 p ((g3 p).mpr rfl)
      have sG : Same w.G (upd w.G p (.lst xs)) := fun a u q => by rw [upd_ne (ne_of_none q g1)]; exact q
      exact ⟨w.frz p (.lst xs), m.frz g2 g1 hp.2, f.frz hp.1 g1, rfl, .lst upd_same (g4.mono sG)⟩
    | od ds =>
      cases hz
      obtain ⟨p, xs, rfl, g1, g2, g4, g5, g3⟩ := h1
      have hp := h2 p ((g3 p).mpr rfl)
      have sG : Same w.G (upd w.G p (.dK xs)) := fun a u q => by rw [upd_ne (ne_of_none q g1)]; exact q
      exact ⟨w.frz p (.dK xs), m.frz g2 g1 hp.2, f.frz hp.1 g1, rfl, .dic upd_same g4 (g5.mono sG)⟩
    | ex c => cases hz
    | rs n d' => cases hz
    | sc ns => cases hz
theorem fzB_sound {C : Cc} {π : List (Nat × V)} {e e' : Env} {σ : St} {w0 w : WS} {o : O} {v : V} {b : B} (m : Mt C π e σ w) (f : Frm w0 w) (h : OOk C σ w0 w o v) (hz : fzB e o = some (b, e')) :
    ∃ w', Mt C π e' σ w' ∧ Frm w0 w' ∧ w'.H = w.H ∧ BOk C w'.G w'.H b v (fun _ => False) := by
  have main : ∀ o', o' = o → (fz e o').map (fun p => (B.fr p.1, p.2)) = some (b, e') → ∃ w', Mt C π e' σ w' ∧ Frm w0 w' ∧ w'.H = w.H ∧ BOk C w'.G w'.H b v (fun _ => False) := by
    rintro o' rfl hq
    cases q : fz e o' with
    | none => rw [q] at hq; cases hq
    | some p =>
      rw [q] at hq
      cases hq
      obtain ⟨w', h1, h2, h3, h4⟩ := fz_sound (e' := p.2) m f h q
      exact ⟨w', h1, h2, h3, h4, fun _ z => z⟩
  cases o with
  | s i =>
    cases q : at? e i with
    | none =>
      simp only [fzB, q] at hz
      exact main _ rfl hz
    | some c =>
      simp only [fzB, q] at hz
      cases c with
      | ex c =>
        cases hz
        have hv : σ[i]? = some (some v) := h
        obtain ⟨u, h1, h2⟩ := m.bok i _ q
        rw [hv] at h1
        cases h1
        exact ⟨w, m, f, rfl, h2.1, fun _ z => z⟩
      | fr d => exact main _ rfl hz
      | ow d => exact main _ rfl hz
      | od d => exact main _ rfl hz
      | rs n d => exact main _ rfl hz
      | sc ns =>
        cases hz
        have hv : σ[i]? = some (some v) := h
        obtain ⟨u, h1, h2⟩ := m.bok i _ q
        rw [hv] at h1
        cases h1
        exact ⟨w, m, f, rfl, h2.1, fun _ z => z⟩
  | b c =>
    cases c with
    | ex c =>
      cases hz
      obtain ⟨fp, h1, h2⟩ := h
      exact ⟨w, m, f, rfl, h1.1, fun _ z => z⟩
    | fr d => exact main _ rfl hz
    | ow d => exact main _ rfl hz
    | od d => exact main _ rfl hz
    | rs n d => exact main _ rfl hz
    | sc ns =>
      cases hz
      obtain ⟨fp, h1, h2⟩ := h
      exact ⟨w, m, f, rfl, h1.1, fun _ z => z⟩
/-- what is read -/
theorem res_sound {C : Cc} {π : List (Nat × V)} {e : Env} {σ : St} {w0 w : WS} {o : O} {v : V} {d : PyData} (m : Mt C π e σ w) (h : OOk C σ w0 w o v) (hr : res e o = some d) : Rq C.K w.G w.H v d := by
  cases o with
  | s i =>
    have hv : σ[i]? = some (some v) := h
    cases q : at? e i with
    | none => simp [res, q] at hr
    | some b =>
      simp only [res, q, Option.bind_some] at hr
      obtain ⟨u, h1, h2⟩ := m.bok i _ q
      rw [hv] at h1
      cases h1
      exact h2.dat m.sub hr
  | b b =>
    obtain ⟨fp, h1, h2⟩ := h
    exact h1.dat m.sub hr
end VL

set_option maxRecDepth 100000
/-! VL2: expressions, tests, operators. -/
namespace VL
open PySem L2

/-- what stands around: no error in hand, room, names of their own, the built-ins -/
structure Vx (X : Cx) (W : WX) : Prop where
  calm : X.calm = true
  room : Room 1 X.A
  nd : X.N.Nodup
  tk : Takes X W
  po : PassesOwn (model X.prog X.w) X.A X.env X.xe
def cc (X : Cx) (ρ : Nat → Res) : Cc := ⟨X.K, X.mg, ρ⟩
def VE (X : Cx) (ρ : Nat → Res) (W : WX) (e : Expr) (f : FE) : Prop := ∃ t, PE X e t ∧ SE (cc X ρ) W t f
def VD (X : Cx) (ρ : Nat → Res) (W : WX) (es : List Expr) (f : FD) : Prop := ∃ t, PA X es t ∧ SD (cc X ρ) W t f
def VA (X : Cx) (ρ : Nat → Res) (W : WX) (es : List Expr) (f : FA) : Prop := ∃ t, PA X es t ∧ SA (cc X ρ) W t f
def VT (X : Cx) (ρ : Nat → Res) (W : WX) (e : Expr) (f : FT) : Prop := ∃ t, PT X e t ∧ ST (cc X ρ) W t f
/-- and, or: whatever the whole is -/
def VW (X : Cx) (ρ : Nat → Res) (W : WX) (e : Expr) (f : FT) : Prop := ∃ t, PW X e t ∧ ST (cc X ρ) W t f

section
variable {C : Cc} {π : List (Nat × V)} {e : Env} {σ : St} {w : WS} {p : Addr}
theorem Mt.notOwned (m : Mt C π e σ w) (hp : w.H p = none) (i : Nat) : ¬ w.fp i p := fun h => by
  obtain ⟨_, o, ho⟩ := m.own h
  rw [hp] at ho
  cases ho
/-- a new list -/
theorem mk_lst {zs : List V} {es : List PyData} (m : Mt C π e σ w) (hp : w.H p = none) (r : RpAll C.K w.G zs es) :
    Mt C π e σ (w.new p (.lst zs)) ∧ Frm w (w.new p (.lst zs)) ∧ OOk C σ w (w.new p (.lst zs)) (.b (.ow es)) (.ref p) :=
  ⟨m.new hp, .new hp, fun a => a = p, ⟨p, zs, rfl, m.sub.free hp, upd_same, r, fun _ => Iff.rfl⟩, fun a ha => by subst ha; exact ⟨.inl hp, m.notOwned hp⟩⟩
theorem mk_dic {ks : List (Key × V)} {es : List (PyData × PyData)} (m : Mt C π e σ w) (hp : w.H p = none) (k : ks.map (fun q => kP q.1) = es.map (·.1)) (r : RpAll C.K w.G (ks.map (·.2)) (es.map (·.2))) :
    Mt C π e σ (w.new p (.dK ks)) ∧ Frm w (w.new p (.dK ks)) ∧ OOk C σ w (w.new p (.dK ks)) (.b (.od es)) (.ref p) :=
  ⟨m.new hp, .new hp, fun a => a = p, ⟨p, ks, rfl, m.sub.free hp, upd_same, k, r, fun _ => Iff.rfl⟩, fun a ha => by subst ha; exact ⟨.inl hp, m.notOwned hp⟩⟩
/-- a new tuple, frozen -/
theorem mk_tup {zs : List V} {es : List PyData} (m : Mt C π e σ w) (hp : w.H p = none) (r : RpAll C.K w.G zs es) :
    ∃ w', Mt C π e σ w' ∧ Frm w w' ∧ w'.H = upd w.H p (.tup zs) ∧ OOk C σ w w' (.b (.fr (.tuple es))) (.ref p) := by
  have hG : w.G p = none := m.sub.free hp
  have sG : Same w.G (upd w.G p (.tup zs)) := fun a u q => by rw [upd_ne (ne_of_none q hG)]; exact q
  refine ⟨(w.new p (.tup zs)).frz p (.tup zs), (m.new hp).frz upd_same hG (fun i => m.notOwned hp i), (Frm.new hp).frz (.inl hp) hG, rfl, .fr (.tup upd_same (r.mono sG))⟩
end

section
variable {X : Cx} {ρ : Nat → Res} {W : WX} {a b c : Expr} {pos : Pos} {fa fb fc : FE} {ta tb tc : FT}

/-! ### names, constants -/
theorem ve_var (i : Nat) {x : Str} (hN : X.N[i]? = some x := by rfl) (hv : Vis X.env.scope x := by first | exact Or.inl rfl | exact Or.inr (Or.inl rfl) | exact Or.inr (Or.inr rfl)) (hd : (x == ("__debug__" : Str)) = false := by decide)
    (hcd : (x == ("__classdict__" : Str)) = false := by decide) : VE X ρ W (.Name x pos) (fVar i) := by
  refine ⟨_, pe_var hN hv hd hcd, fun π e σ w Q m h => ?_⟩
  unfold fVar at h
  cases q : at? e i with
  | none => rw [q] at h; exact h.elim
  | some b =>
    rw [q] at h
    obtain ⟨v, h1, h2⟩ := m.bok i b q
    exact ⟨v, h1, h v w m (.refl w) h1⟩
theorem se_c {C : Cc} {v : V} {d : PyData} (h : ∀ G, Rp C.K G v d) : SE C W (tC v) (fC d) := fun π e σ w Q m k => k v w m (.refl w) (.fr (h _))
theorem ve_int {i j} : VE X ρ W (.Constant (.int i) j pos) (fC (.int i)) := ⟨_, pe_int, se_c fun _ => .int i⟩
theorem ve_bl {i j} : VE X ρ W (.Constant (.bool i) j pos) (fC (.bool i)) := ⟨_, pe_bl, se_c fun _ => .bl i⟩
theorem ve_non {j} : VE X ρ W (.Constant .none j pos) (fC .none) := ⟨_, pe_non, se_c fun _ => .non⟩
theorem ve_str {i j} : VE X ρ W (.Constant (.str i) j pos) (fC (.str i)) := ⟨_, pe_str, se_c fun _ => .str i⟩
/-- a constant of the module -/
theorem ve_glob {x : Str} {v : V} {u : Value} {d : PyData} (hm : X.mg x = some u) (r : RelV v u) (h : ∀ G, Rp X.K G v d) (hg : Gl X x := by rfl) (hd : (x == ("__debug__" : Str)) = false := by decide) : VE X ρ W (.Name x pos) (fC d) :=
  ⟨_, pe_glob hg hm r hd, se_c h⟩

/-! ### operators -/
def OpV (X : Cx) (ρ : Nat → Res) (F : Value → Value → Sem Value) (op : PyData → PyData → Option B) : Prop := ∃ r, OpR X F r ∧
  ∀ π e σ w x y dx dy z Q, Mt (cc X ρ) π e σ w → Rq X.K w.G w.H x dx → Rq X.K w.G w.H y dy → op dx dy = some z → (∀ v w', Mt (cc X ρ) π e σ w' → Frm w w' → OOk (cc X ρ) σ w w' (.b z) v → Q v w'.H) → r x y w.H Q
theorem se_bin {C : Cc} {r : R2} {op : PyData → PyData → Option B} {ta tb : TE} (hr : ∀ π e σ w x y dx dy z Q, Mt C π e σ w → Rq C.K w.G w.H x dx → Rq C.K w.G w.H y dy → op dx dy = some z → (∀ v w', Mt C π e σ w' → Frm w w' → OOk C σ w w' (.b z) v → Q v w'.H) → r x y w.H Q)
    (ha : SE C W ta fa) (hb : SE C W tb fb) : SE C W (tOp r ta tb) (fBin op fa fb) := fun π e σ w Q m h => by
  refine ha π e σ w _ m (h.bnd fun o1 e1 v1 w1 m1 f1 k1 h1 => ?_)
  refine hb π e1 σ w1 _ m1 ((h1.from f1).bnd fun o2 e2 v2 w2 m2 f2 k2 h2 => ?_)
  have h3 := h2.from f2
  cases q1 : res e2 o1 with
  | none => rw [q1] at h3; exact h3.elim
  | some d1 =>
    cases q2 : res e2 o2 with
    | none => rw [q1, q2] at h3; exact h3.elim
    | some d2 =>
      rw [q1, q2] at h3
      simp only [Option.bind_some] at h3
      cases q3 : op d1 d2 with
      | none => rw [q3] at h3; exact h3.elim
      | some z =>
        rw [q3] at h3
        exact hr π e2 σ w2 v1 v2 d1 d2 z Q m2 (res_sound m2 (k1.step f2) q1) (res_sound m2 k2 q2) q3 fun v w' m' f' k' => h3 v w' m' f' (k'.base (f1.trans f2))
theorem ve_op {op : Operator} {g : PyData → PyData → Option B} (ho : OpV X ρ (binaryOp op) g) (ha : VE X ρ W a fa) (hb : VE X ρ W b fb) : VE X ρ W (.BinOp a op b pos) (fBin g fa fb) := by
  obtain ⟨r, h1, h2⟩ := ho
  obtain ⟨ta, pa, sa⟩ := ha
  obtain ⟨tb, pb, sb⟩ := hb
  exact ⟨_, pe_op h1 pa pb, se_bin h2 sa sb⟩
theorem ve_cmp {op : CmpOp} {g : PyData → PyData → Option B} (ho : OpV X ρ (compareOp op) g) (ha : VE X ρ W a fa) (hb : VE X ρ W b fb) (hm : behindInMarks op b = false := by first | exact nomark _ | rfl) : VE X ρ W (.Compare a [op] [b] pos) (fBin g fa fb) := by
  obtain ⟨r, h1, h2⟩ := ho
  obtain ⟨ta, pa, sa⟩ := ha
  obtain ⟨tb, pb, sb⟩ := hb
  exact ⟨_, pe_cmpR h1 pa pb hm, se_bin h2 sa sb⟩
def UnV (X : Cx) (ρ : Nat → Res) (F : Value → Sem Value) (op : PyData → Option B) : Prop := ∃ r, UnR X F r ∧
  ∀ π e σ w x dx z Q, Mt (cc X ρ) π e σ w → Rq X.K w.G w.H x dx → op dx = some z → (∀ v w', Mt (cc X ρ) π e σ w' → Frm w w' → OOk (cc X ρ) σ w w' (.b z) v → Q v w'.H) → r x w.H Q
theorem se_un {C : Cc} {r : V → Hp → VK → Prop} {op : PyData → Option B} {ta : TE} (hr : ∀ π e σ w x dx z Q, Mt C π e σ w → Rq C.K w.G w.H x dx → op dx = some z → (∀ v w', Mt C π e σ w' → Frm w w' → OOk C σ w w' (.b z) v → Q v w'.H) → r x w.H Q)
    (ha : SE C W ta fa) : SE C W (L2.tUn r ta) (fUn op fa) := fun π e σ w Q m h => by
  refine ha π e σ w _ m (h.bnd fun o1 e1 v1 w1 m1 f1 k1 h1 => ?_)
  have h3 := h1.from f1
  cases q1 : res e1 o1 with
  | none => rw [q1] at h3; exact h3.elim
  | some d1 =>
    rw [q1] at h3
    simp only [Option.bind_some] at h3
    cases q3 : op d1 with
    | none => rw [q3] at h3; exact h3.elim
    | some z =>
      rw [q3] at h3
      exact hr π e1 σ w1 v1 d1 z Q m1 (res_sound m1 k1 q1) q3 fun v w' m' f' k' => h3 v w' m' f' (k'.base f1)
theorem ve_un {op : UnaryOp} {g : PyData → Option B} (ho : UnV X ρ (unaryOp op) g) (ha : VE X ρ W a fa) : VE X ρ W (.UnaryOp op a pos) (fUn g fa) := by
  obtain ⟨r, h1, h2⟩ := ho
  obtain ⟨ta, pa, sa⟩ := ha
  exact ⟨_, pe_un h1 pa, se_un h2 sa⟩

/-- scalars -/
theorem sc_end {C : Cc} {π : List (Nat × V)} {e : Env} {σ : St} {w : WS} {d : PyData} {v : V} {Q : VK} (m : Mt C π e σ w) (k : ∀ v w', Mt C π e σ w' → Frm w w' → OOk C σ w w' (.b (.fr d)) v → Q v w'.H) (h : Rp C.K w.G v d) : Q v w.H :=
  k v w m (.refl w) (.fr h)
def opI (C : Int → Int → Bool) (g : Int → Int → Int) : PyData → PyData → Option B
  | .int i, .int j => if C i j = true then some (.fr (.int (g i j))) else none
  | _, _ => none
theorem opv_I {F : Value → Value → Sem Value} {P : Int → Int → Prop} {C : Int → Int → Bool} {g : Int → Int → Int} (hr : OpR X F (rI P fun i j => .int (g i j))) (hC : ∀ i j, C i j = true → P i j) : OpV X ρ F (opI C g) := by
  refine ⟨_, hr, fun π e σ w x y dx dy z Q m hx hy hz k => ?_⟩
  unfold opI at hz
  split at hz
  · rename_i i j
    split at hz
    · cases hz
      cases hx
      cases hy
      exact ⟨i, j, rfl, rfl, hC i j (by assumption), sc_end m k (.int _)⟩
    · cases hz
  · cases hz
def opI0 (g : Int → Int → Int) : PyData → PyData → Option B
  | .int i, .int j => some (.fr (.int (g i j)))
  | _, _ => none
theorem opv_I0 {F : Value → Value → Sem Value} {g : Int → Int → Int} (hr : OpR X F (rI0 fun i j => .int (g i j))) : OpV X ρ F (opI0 g) := by
  refine ⟨_, hr, fun π e σ w x y dx dy z Q m hx hy hz k => ?_⟩
  unfold opI0 at hz
  split at hz
  · rename_i i j
    cases hz
    cases hx
    cases hy
    exact ⟨i, j, rfl, rfl, sc_end m k (.int _)⟩
  · cases hz
def opB0 (g : Int → Int → Bool) : PyData → PyData → Option B
  | .int i, .int j => some (.fr (.bool (g i j)))
  | _, _ => none
theorem opv_B0 {F : Value → Value → Sem Value} {g : Int → Int → Bool} (hr : OpR X F (rI0 fun i j => .bl (g i j))) : OpV X ρ F (opB0 g) := by
  refine ⟨_, hr, fun π e σ w x y dx dy z Q m hx hy hz k => ?_⟩
  unfold opB0 at hz
  split at hz
  · rename_i i j
    cases hz
    cases hx
    cases hy
    exact ⟨i, j, rfl, rfl, sc_end m k (.bl _)⟩
  · cases hz
abbrev oLt := opB0 fun i j => decide (i < j)
abbrev oLe := opB0 fun i j => decide (i ≤ j)
abbrev oGt := opB0 fun i j => decide (j < i)
abbrev oGe := opB0 fun i j => decide (j ≤ i)
theorem v_lt : OpV X ρ (compareOp .Lt) oLt := opv_B0 op_lt
theorem v_le : OpV X ρ (compareOp .LtE) oLe := opv_B0 op_le
theorem v_gt : OpV X ρ (compareOp .Gt) oGt := opv_B0 op_gt
theorem v_ge : OpV X ρ (compareOp .GtE) oGe := opv_B0 op_ge
abbrev oSub := opI0 fun i j => i - j
theorem v_sub : OpV X ρ (binaryOp .Sub) oSub := opv_I0 op_sub
abbrev oMod := opI (fun _ j => decide (0 < j)) fun i j => i % j
theorem v_mod : OpV X ρ (binaryOp .Mod) oMod := opv_I op_mod fun _ _ h => of_decide_eq_true h
def cPow (i j : Int) : Bool := decide (0 ≤ j) && decide (j.natAbs ≤ 1000000) && decide (i.natAbs < 2 ^ 64)
theorem cPow_ok {i j : Int} (h : cPow i j = true) : 0 ≤ j ∧ j ≤ 1000000 ∧ i.natAbs < 2 ^ 64 := by
  unfold cPow at h
  rw [Bool.and_eq_true, Bool.and_eq_true, decide_eq_true_eq, decide_eq_true_eq, decide_eq_true_eq] at h
  exact ⟨h.1.1, by omega, h.2⟩
abbrev oPow := opI cPow fun i j => i ^ j.toNat
theorem v_pow : OpV X ρ (binaryOp .Pow) oPow := opv_I op_pow fun i j h => cPow_ok h
abbrev oShl := opI cPow fun i j => i * 2 ^ j.toNat
theorem v_shl : OpV X ρ (binaryOp .LShift) oShl := opv_I op_shl fun i j h => cPow_ok h
abbrev oShr := opI (fun _ j => decide (0 ≤ j)) fun i j => i / 2 ^ j.toNat
theorem v_shr : OpV X ρ (binaryOp .RShift) oShr := opv_I op_shr fun _ _ h => of_decide_eq_true h
abbrev oAnd := opI0 Builtin.bitAnd
theorem v_and : OpV X ρ (binaryOp .BitAnd) oAnd := opv_I0 op_and
abbrev oOr := opI0 Builtin.bitOr
theorem v_or : OpV X ρ (binaryOp .BitOr) oOr := opv_I0 op_or
def oNeg : PyData → Option B
  | .int i => some (.fr (.int (-i)))
  | _ => none
theorem v_neg : UnV X ρ (unaryOp .USub) oNeg := by
  refine ⟨_, un_neg, fun π e σ w x dx z Q m hx hz k => ?_⟩
  unfold oNeg at hz
  split at hz
  · rename_i i
    cases hz
    cases hx
    exact ⟨i, rfl, sc_end m k (.int _)⟩
  · cases hz

/-! ### tests -/
theorem vt_of (hs : ∀ whole, isTrue a X.env whole = (do let v ← whole; standAt a.pos; holding [v] (truthy v))) (ha : VE X ρ W a fa) : VT X ρ W a (fTest fa) := by
  obtain ⟨t, p, s⟩ := ha
  refine ⟨_, pt_val p hs, fun π e σ w Q m h => ?_⟩
  refine s π e σ w _ m (h.bnd fun o1 e1 v1 w1 m1 f1 k1 h1 => ?_)
  have h3 := h1.from f1
  cases q1 : res e1 o1 with
  | none => rw [q1] at h3; exact h3.elim
  | some d1 =>
    rw [q1] at h3
    cases d1 with
    | bool bb =>
      have r := res_sound m1 k1 q1
      cases r
      exact ⟨bb, rfl, h3 bb w1 m1 (.refl _) rfl⟩
    | none => exact h3.elim
    | int i => exact h3.elim
    | str i => exact h3.elim
    | list i => exact h3.elim
    | tuple i => exact h3.elim
    | dict i => exact h3.elim
theorem st_test {C : Cc} {t : TE} (s : SE C W t fa) : ST C W (tTest t) (fTest fa) := fun π e σ w Q m h => by
  refine s π e σ w _ m (h.bnd fun o1 e1 v1 w1 m1 f1 k1 h1 => ?_)
  have h3 := h1.from f1
  cases q1 : res e1 o1 with
  | none => rw [q1] at h3; exact h3.elim
  | some d1 =>
    rw [q1] at h3
    cases d1 with
    | bool bb =>
      have r := res_sound m1 k1 q1
      cases r
      exact ⟨bb, rfl, h3 bb w1 m1 (.refl _) rfl⟩
    | none => exact h3.elim
    | int i => exact h3.elim
    | str i => exact h3.elim
    | list i => exact h3.elim
    | tuple i => exact h3.elim
    | dict i => exact h3.elim
theorem vt_cmp {op : CmpOp} {g : PyData → PyData → Option B} (ho : OpV X ρ (compareOp op) g) (ha : VE X ρ W a fa) (hb : VE X ρ W b fb) (hm : behindInMarks op b = false := by first | exact nomark _ | rfl) : VT X ρ W (.Compare a [op] [b] pos) (fTest (fBin g fa fb)) := by
  obtain ⟨r, h1, h2⟩ := ho
  obtain ⟨ta, pa, sa⟩ := ha
  obtain ⟨tb, pb, sb⟩ := hb
  exact ⟨_, pt_cmpR h1 pa pb hm, st_test (se_bin h2 sa sb)⟩
theorem VW.vt (h : VW X ρ W a ta) : VT X ρ W a ta := by
  obtain ⟨t, p, s⟩ := h
  exact ⟨t, p.pt, s⟩
theorem vw_and1 (ha : VT X ρ W a ta) : VW X ρ W (.BoolOp .And [a] pos) ta := by
  obtain ⟨t, p, s⟩ := ha
  exact ⟨t, pw_and1 p, s⟩
theorem vw_or1 (ha : VT X ρ W a ta) : VW X ρ W (.BoolOp .Or [a] pos) ta := by
  obtain ⟨t, p, s⟩ := ha
  exact ⟨t, pw_or1 p, s⟩
theorem st_and {C : Cc} {t u : TT} (s1 : ST C W t ta) (s2 : ST C W u tb) : ST C W (L2.tAnd t u) (tAnd ta tb) := fun π e σ w Q m h => by
  refine s1 π e σ w _ m (h.bnd fun o1 e1 v1 w1 m1 f1 k1 h1 => ?_)
  subst k1
  have h3 := h1.from f1
  cases o1 with
  | true => rw [if_pos rfl]; exact s2 π e1 σ w1 _ m1 h3
  | false => rw [if_neg Bool.false_ne_true]; exact h3 false w1 m1 (.refl _) rfl
theorem st_or {C : Cc} {t u : TT} (s1 : ST C W t ta) (s2 : ST C W u tb) : ST C W (L2.tOr t u) (tOr ta tb) := fun π e σ w Q m h => by
  refine s1 π e σ w _ m (h.bnd fun o1 e1 v1 w1 m1 f1 k1 h1 => ?_)
  subst k1
  have h3 := h1.from f1
  cases o1 with
  | false => rw [if_neg Bool.false_ne_true]; exact s2 π e1 σ w1 _ m1 h3
  | true => rw [if_pos rfl]; exact h3 true w1 m1 (.refl _) rfl
theorem vw_and {rest : List Expr} (ha : VT X ρ W a ta) (hb : VW X ρ W (.BoolOp .And (b :: rest) pos) tb) : VW X ρ W (.BoolOp .And (a :: b :: rest) pos) (tAnd ta tb) := by
  obtain ⟨t, p, s⟩ := ha
  obtain ⟨t2, p2, s2⟩ := hb
  exact ⟨_, pw_and p p2, st_and s s2⟩
theorem vw_or {rest : List Expr} (ha : VT X ρ W a ta) (hb : VW X ρ W (.BoolOp .Or (b :: rest) pos) tb) : VW X ρ W (.BoolOp .Or (a :: b :: rest) pos) (tOr ta tb) := by
  obtain ⟨t, p, s⟩ := ha
  obtain ⟨t2, p2, s2⟩ := hb
  exact ⟨_, pw_or p p2, st_or s s2⟩
theorem vt_not (ha : VT X ρ W a ta) : VT X ρ W (.UnaryOp .Not a pos) (tNot ta) := by
  obtain ⟨t, p, s⟩ := ha
  refine ⟨_, pt_not p, fun π e σ w Q m h => ?_⟩
  refine s π e σ w _ m (h.bnd fun o1 e1 v1 w1 m1 f1 k1 h1 => ?_)
  subst k1
  exact h1.from f1 (!o1) w1 m1 (.refl _) rfl
theorem ve_ifExp (hc : VT X ρ W c tc) (ha : VE X ρ W a fa) (hb : VE X ρ W b fb) : VE X ρ W (.IfExp c a b pos) (fIf tc fa fb) := by
  obtain ⟨t, p, s⟩ := hc
  obtain ⟨t1, p1, s1⟩ := ha
  obtain ⟨t2, p2, s2⟩ := hb
  refine ⟨_, pe_ifExp p p1 p2, fun π e σ w Q m h => ?_⟩
  refine s π e σ w _ m (h.bnd fun o1 e1 v1 w1 m1 f1 k1 h1 => ?_)
  subst k1
  have h3 := h1.from f1
  cases o1 with
  | true => rw [if_pos rfl]; exact s1 π e1 σ w1 _ m1 (Post.reb f1 h1)
  | false => rw [if_neg Bool.false_ne_true]; exact s2 π e1 σ w1 _ m1 (Post.reb f1 h1)
end
end VL

set_option maxRecDepth 100000
/-! VL3: displays, subscripts, slices, built-ins. -/
namespace VL
open PySem L2
section
variable {X : Cx} {ρ : Nat → Res} {W : WX} {a b c : Expr} {es : List Expr} {pos : Pos} {fa fb fc : FE} {ta tb tc : FT} {fd : FD} {as_ : FA}
theorem big_le : big ≤ sizeLine := by decide
theorem le_big {n : Nat} (h : n ≤ big) : n ≤ sizeLine := Nat.le_trans h big_le
/-! ### displays -/
theorem vd_nil : VD X ρ W [] dNil := ⟨_, pa_nil, fun π e σ w Q m h => h [] w m (.refl w) .nil⟩
theorem vd_cons (ha : VE X ρ W a fa) (hr : VD X ρ W es fd) (hs : starEach (a :: es) X.env = (false, eval a X.env) :: starEach es X.env := by rfl) : VD X ρ W (a :: es) (dCons fa fd) := by
  obtain ⟨t, p, s⟩ := ha
  obtain ⟨t2, p2, s2⟩ := hr
  refine ⟨_, pa_cons p p2 hs, fun π e σ w Q m h => ?_⟩
  refine s π e σ w _ m (h.bnd fun o1 e1 v1 w1 m1 f1 k1 h1 => ?_)
  cases q1 : fz e1 o1 with
  | none => rw [q1] at h1; exact h1.elim
  | some pr =>
    rw [q1] at h1
    simp only [Option.bind_some] at h1
    obtain ⟨w2, m2, f2, eH, r2⟩ := fz_sound (e' := pr.2) m1 f1 k1 q1
    rw [← eH]
    refine s2 π pr.2 σ w2 _ m2 ((h1.from f2).bnd fun ds e3 vs w3 m3 f3 k3 h3 => ?_)
    exact h3 (v1 :: vs) w3 m3 f3 (.cons (r2.mono f3.g) k3)
theorem ve_lst (h : VD X ρ W es fd) : VE X ρ W (.List es pos) (fLst fd) := by
  obtain ⟨t, p, s⟩ := h
  refine ⟨_, pe_lst p, fun π e σ w Q m h => ?_⟩
  refine s π e σ w _ m (h.bnd fun ds e1 vs w1 m1 f1 k1 h1 => ?_)
  have h2 := h1.from f1
  have hl := k1.length
  split at h2
  · rename_i hz
    refine ⟨by rw [hl]; exact Nat.le_trans hz (by decide), fun p hp => ?_⟩
    obtain ⟨m2, f2, k2⟩ := mk_lst m1 hp k1
    exact h2 _ _ m2 f2 (k2.base f1)
  · exact h2.elim
theorem ve_tup {x1} (h : VD X ρ W es fd) : VE X ρ W (.Tuple es x1 pos) (fTup fd) := by
  obtain ⟨t, p, s⟩ := h
  refine ⟨_, pe_tup p, fun π e σ w Q m h => ?_⟩
  refine s π e σ w _ m (h.bnd fun ds e1 vs w1 m1 f1 k1 h1 => ?_)
  have h2 := h1.from f1
  have hl := k1.length
  split at h2
  · rename_i hz
    refine ⟨by rw [hl]; exact Nat.le_trans hz (by decide), fun p hp => ?_⟩
    obtain ⟨w2, m2, f2, eH, k2⟩ := mk_tup m1 hp k1
    rw [← eH]
    exact h2 _ _ m2 f2 (k2.base f1)
  · exact h2.elim
/-! ### and, or, not as values -/
theorem ve_one {op} (h : VE X ρ W a fa) : VE X ρ W (.BoolOp op [a] pos) fa := by
  obtain ⟨t, p, s⟩ := h
  exact ⟨t, pe_one p, s⟩
theorem ve_and {rest : List Expr} (ha : VE X ρ W a fa) (hb : VE X ρ W (.BoolOp .And (b :: rest) pos) fb) : VE X ρ W (.BoolOp .And (a :: b :: rest) pos) (fAndV fa fb) := by
  obtain ⟨t, p, s⟩ := ha
  obtain ⟨t2, p2, s2⟩ := hb
  refine ⟨_, pe_and p p2, fun π e σ w Q m h => ?_⟩
  refine s π e σ w _ m (h.bnd fun o1 e1 v1 w1 m1 f1 k1 h1 => ?_)
  cases q1 : res e1 o1 with
  | none => rw [q1] at h1; exact h1.elim
  | some d1 =>
    rw [q1] at h1
    have r := res_sound m1 k1 q1
    split at h1
    · rename_i z; cases z; cases r
      exact ⟨true, rfl, by rw [if_pos rfl]; exact s2 π e1 σ w1 _ m1 (Post.reb f1 h1)⟩
    · rename_i z; cases z; cases r
      exact ⟨false, rfl, by rw [if_neg Bool.false_ne_true]; exact h1 _ w1 m1 f1 (.fr (.bl _))⟩
    · exact h1.elim
theorem ve_or {rest : List Expr} (ha : VE X ρ W a fa) (hb : VE X ρ W (.BoolOp .Or (b :: rest) pos) fb) : VE X ρ W (.BoolOp .Or (a :: b :: rest) pos) (fOrV fa fb) := by
  obtain ⟨t, p, s⟩ := ha
  obtain ⟨t2, p2, s2⟩ := hb
  refine ⟨_, pe_or p p2, fun π e σ w Q m h => ?_⟩
  refine s π e σ w _ m (h.bnd fun o1 e1 v1 w1 m1 f1 k1 h1 => ?_)
  cases q1 : res e1 o1 with
  | none => rw [q1] at h1; exact h1.elim
  | some d1 =>
    rw [q1] at h1
    have r := res_sound m1 k1 q1
    split at h1
    · rename_i z; cases z; cases r
      exact ⟨true, rfl, by rw [if_pos rfl]; exact h1 _ w1 m1 f1 (.fr (.bl _))⟩
    · rename_i z; cases z; cases r
      exact ⟨false, rfl, by rw [if_neg Bool.false_ne_true]; exact s2 π e1 σ w1 _ m1 (Post.reb f1 h1)⟩
    · exact h1.elim
theorem ve_not (ha : VE X ρ W a fa) : VE X ρ W (.UnaryOp .Not a pos) (fNotV fa) := by
  obtain ⟨t, p, s⟩ := ha
  refine ⟨_, pe_not p, fun π e σ w Q m h => ?_⟩
  refine s π e σ w _ m (h.bnd fun o1 e1 v1 w1 m1 f1 k1 h1 => ?_)
  cases q1 : res e1 o1 with
  | none => rw [q1] at h1; exact h1.elim
  | some d1 =>
    rw [q1] at h1
    have r := res_sound m1 k1 q1
    split at h1
    · rename_i bb z; cases z; cases r
      exact ⟨bb, rfl, h1 _ w1 m1 f1 (.fr (.bl _))⟩
    · exact h1.elim
/-! ### a < b < c -/
theorem se_chain {op op' : CmpOp} {g g' : PyData → PyData → Option B} (ho : OpV X ρ (compareOp op) g) (ho' : OpV X ρ (compareOp op') g') (ha : VE X ρ W a fa) (hb : VE X ρ W b fb) (hc : VE X ρ W c fc) :
    ∃ r r' t1 t2 t3, OpR X (compareOp op) r ∧ OpR X (compareOp op') r' ∧ PE X a t1 ∧ PE X b t2 ∧ PE X c t3 ∧ SE (cc X ρ) W (tChain r r' t1 t2 t3) (fChain g g' fa fb fc) := by
  obtain ⟨r, h1, h2⟩ := ho
  obtain ⟨r', h1', h2'⟩ := ho'
  obtain ⟨t1, p1, s1⟩ := ha
  obtain ⟨t2, p2, s2⟩ := hb
  obtain ⟨t3, p3, s3⟩ := hc
  refine ⟨r, r', t1, t2, t3, h1, h1', p1, p2, p3, fun π e σ w Q m h => ?_⟩
  refine s1 π e σ w _ m (h.bnd fun o1 e1 v1 w1 m1 f1 k1 h1 => ?_)
  refine s2 π e1 σ w1 _ m1 ((h1.from f1).bnd fun o2 e2 v2 w2 m2 f2 k2 h2x => ?_)
  have h3 := h2x.from f2
  cases q1 : res e2 o1 with
  | none => rw [q1] at h3; exact h3.elim
  | some d1 =>
    cases q2 : res e2 o2 with
    | none => rw [q1, q2] at h3; exact h3.elim
    | some d2 =>
      rw [q1, q2] at h3
      simp only [Option.bind_some] at h3
      cases q3 : g d1 d2 with
      | none => rw [q3] at h3; exact h3.elim
      | some z =>
        rw [q3] at h3
        refine h2 π e2 σ w2 v1 v2 d1 d2 z _ m2 (res_sound m2 (k1.step f2) q1) (res_sound m2 k2 q2) q3 fun v w' m' f' k' => ?_
        split at h3
        · rename_i z2; cases z2
          obtain ⟨_, kk, _⟩ := k'
          cases kk.1
          refine ⟨true, rfl, ?_⟩
          rw [if_pos rfl]
          refine s3 π e2 σ w' _ m' ((h3.from f').bnd fun o3 e3 v3 w3 m3 f3 k3 h4 => ?_)
          have h5 := h4.from f3
          cases q5 : res e3 o2 with
          | none => rw [q5] at h5; exact h5.elim
          | some d5 =>
            cases q6 : res e3 o3 with
            | none => rw [q5, q6] at h5; exact h5.elim
            | some d6 =>
              rw [q5, q6] at h5
              simp only [Option.bind_some] at h5
              cases q7 : g' d5 d6 with
              | none => rw [q7] at h5; exact h5.elim
              | some z7 =>
                rw [q7] at h5
                exact h2' π e3 σ w3 v2 v3 d5 d6 z7 Q m3 (res_sound m3 ((k2.step f').step f3) q5) (res_sound m3 k3 q6) q7 fun v w5 m5 f5 k5 => h5 v w5 m5 f5 (k5.base (((f1.trans f2).trans f').trans f3))
        · rename_i z2; cases z2
          obtain ⟨_, kk, _⟩ := k'
          cases kk.1
          refine ⟨false, rfl, ?_⟩
          rw [if_neg Bool.false_ne_true]
          exact h3 _ w' m' f' (.fr (.bl _))
        · exact h3.elim
theorem ve_chain {op op' : CmpOp} {g g' : PyData → PyData → Option B} (ho : OpV X ρ (compareOp op) g) (ho' : OpV X ρ (compareOp op') g') (ha : VE X ρ W a fa) (hb : VE X ρ W b fb) (hc : VE X ρ W c fc) (hm : lastMarks [op, op'] [b, c] = false := by with_unfolding_all rfl) :
    VE X ρ W (.Compare a [op, op'] [b, c] pos) (fChain g g' fa fb fc) := by
  obtain ⟨r, r', t1, t2, t3, h1, h1', p1, p2, p3, s⟩ := se_chain ho ho' ha hb hc
  exact ⟨_, pe_chain h1 h1' p1 p2 p3 hm, s⟩
theorem vt_chain {op op' : CmpOp} {g g' : PyData → PyData → Option B} (ho : OpV X ρ (compareOp op) g) (ho' : OpV X ρ (compareOp op') g') (ha : VE X ρ W a fa) (hb : VE X ρ W b fb) (hc : VE X ρ W c fc) (hm : lastMarks [op, op'] [b, c] = false := by with_unfolding_all rfl) :
    VT X ρ W (.Compare a [op, op'] [b, c] pos) (fTest (fChain g g' fa fb fc)) := by
  obtain ⟨r, r', t1, t2, t3, h1, h1', p1, p2, p3, s⟩ := se_chain ho ho' ha hb hc
  exact ⟨_, pt_chain h1 h1' p1 p2 p3 hm, st_test s⟩
/-! ### the operators on all kinds -/
theorem v_add : OpV X ρ (binaryOp .Add) oAdd := by
  refine ⟨_, OpR.or op_add (OpR.or op_add_str (OpR.or op_cat op_catA)), fun π e σ w x y dx dy z Q m hx hy hz k => ?_⟩
  unfold oAdd at hz
  split at hz
  · cases hz; cases hx; cases hy
    exact .inl ⟨_, _, rfl, rfl, sc_end m k (.int _)⟩
  · split at hz
    · rename_i hb
      cases hz; cases hx; cases hy
      exact .inr (.inl ⟨_, _, rfl, rfl, le_big hb, sc_end m k (.str _)⟩)
    · cases hz
  · split at hz
    · rename_i hb
      cases hz
      obtain ⟨p, xs, rfl, hp, rp⟩ := hx
      obtain ⟨q, ys, rfl, hq, rq⟩ := hy
      have l1 := rp.length
      have l2 := rq.length
      refine .inr (.inr (.inl ⟨p, q, xs, ys, rfl, rfl, hp, hq, by rw [l1, l2]; exact le_big hb, fun r hr => ?_⟩))
      obtain ⟨m2, f2, k2⟩ := mk_lst m hr (rp.append rq)
      exact k _ _ m2 f2 k2
    · cases hz
  · split at hz
    · rename_i hb
      cases hz
      obtain ⟨p, xs, rfl, hp, rp⟩ := hx
      obtain ⟨q, ys, rfl, hq, rq⟩ := hy
      have l1 := rp.length
      have l2 := rq.length
      have e1 : w.H p = some (.tup xs) := m.sub _ _ hp
      have e2 : w.H q = some (.tup ys) := m.sub _ _ hq
      refine .inr (.inr (.inr ⟨p, q, xs, ys, rfl, rfl, .of e1, .of e2, by rw [l1, l2]; exact le_big hb, fun e => ?_, fun e e' => ?_, fun e e' r hr => ?_⟩))
      · subst e
        cases rp
        exact k _ w m (.refl w) (.fr (.tup hq rq))
      · subst e'
        cases rq
        rw [List.append_nil] at k
        exact k _ w m (.refl w) (.fr (.tup hp rp))
      · obtain ⟨w2, m2, f2, eH, k2⟩ := mk_tup m hr (rp.append rq)
        rw [← eH]
        exact k _ _ m2 f2 k2
    · cases hz
  · cases hz
theorem flat_rep {K : PySem.W.Frag} {G : Hp} {vs : List V} {ds : List PyData} (h : RpAll K G vs ds) : ∀ n : Nat, RpAll K G (List.replicate n vs).flatten (List.replicate n ds).flatten
  | 0 => .nil
  | n + 1 => by
    rw [List.replicate_succ, List.replicate_succ, List.flatten_cons, List.flatten_cons]
    exact h.append (flat_rep h n)
theorem cMul_ok {i j : Int} (h : cMul i j = true) : (-(2 ^ 64) < i ∧ i < 2 ^ 64) ∨ (-(2 ^ 64) < j ∧ j < 2 ^ 64) := by
  unfold cMul at h
  rw [Bool.or_eq_true, decide_eq_true_eq, decide_eq_true_eq] at h
  rcases h with h | h
  · exact .inl ⟨by omega, by omega⟩
  · exact .inr ⟨by omega, by omega⟩
theorem cFdiv_ok {i j : Int} (h : cFdiv i j = true) : 0 < j ∧ j < 2 ^ 64 := by
  unfold cFdiv at h
  rw [Bool.and_eq_true, decide_eq_true_eq, decide_eq_true_eq] at h
  exact ⟨h.1, by omega⟩
theorem v_mul : OpV X ρ (binaryOp .Mult) oMul := by
  refine ⟨_, OpR.or op_mul op_rep, fun π e σ w x y dx dy z Q m hx hy hz k => ?_⟩
  unfold oMul at hz
  split at hz
  · split at hz
    · rename_i i j hc
      cases hz; cases hx; cases hy
      exact .inl ⟨_, _, rfl, rfl, cMul_ok hc, sc_end m k (.int _)⟩
    · cases hz
  · split at hz
    · rename_i hb
      cases hz; cases hy
      obtain ⟨p, xs, rfl, hp, rp⟩ := hx
      have l1 := rp.length
      refine .inr ⟨p, _, xs, rfl, rfl, hp, by omega, by omega, by rw [l1]; exact le_big hb.2, fun r hr => ?_⟩
      obtain ⟨m2, f2, k2⟩ := mk_lst m hr (flat_rep rp _)
      exact k _ _ m2 f2 k2
    · cases hz
  · cases hz
theorem v_fdiv : OpV X ρ (binaryOp .FloorDiv) (opI cFdiv fun i j => i / j) := by
  refine opv_I (op_fdivW) fun i j h => ?_
  have h' : 0 < j ∧ j < 2 ^ 64 := cFdiv_ok h
  exact wide_div (b := 64) h'.1 (by omega) (by decide) (by decide)
theorem Rq.dp {K : PySem.W.Frag} {G H : Hp} {v : V} {d : PyData} (h : Rq K G H v d) (s : Same G H) (c : SeqAt.shaped d = true) : Dp K H v d := (h.rp s).dp d (SeqAt.canLay_of_shaped c)
theorem v_eq (hu : X.A.units + 64 < cLine) : OpV X ρ (compareOp .Eq) oEq := by
  refine ⟨_, op_eqD hu, fun π e σ w x y dx dy z Q m hx hy hz k => ?_⟩
  unfold oEq at hz
  split at hz
  · rename_i hc
    cases hz
    exact ⟨dx, dy, hx.dp m.sub hc.1, hy.dp m.sub hc.2, hc.1, hc.2, sc_end m k (.bl _)⟩
  · cases hz
theorem v_ne (hu : X.A.units + 64 < cLine) : OpV X ρ (compareOp .NotEq) oNe := by
  refine ⟨_, op_neD hu, fun π e σ w x y dx dy z Q m hx hy hz k => ?_⟩
  unfold oNe at hz
  split at hz
  · rename_i hc
    cases hz
    exact ⟨dx, dy, hx.dp m.sub hc.1, hy.dp m.sub hc.2, hc.1, hc.2, sc_end m k (.bl _)⟩
  · cases hz
theorem sign_of {a : Str} (h : a.cps.size = 1) : a = ⟨#[a.cps.getD 0 0]⟩ := by
  obtain ⟨l⟩ := a
  obtain ⟨l⟩ := l
  match l, h with
  | [c], _ => rfl
theorem v_in (hu : X.A.units + 65 < cLine) : OpV X ρ (compareOp .In) oIn := by
  refine ⟨_, OpR.or (op_inD hu) op_in_sign, fun π e σ w x y dx dy z Q m hx hy hz k => ?_⟩
  unfold oIn at hz
  split at hz
  · split at hz
    · rename_i hc
      cases hz
      exact .inl ⟨_, _, hx.dp m.sub hc.1, hy.dp m.sub hc.2, hc.1, hc.2, sc_end m k (.bl _)⟩
    · cases hz
  · split at hz
    · rename_i hc
      cases hz; cases hx; cases hy
      exact .inr ⟨_, _, congrArg V.str (sign_of hc), rfl, sc_end m k (.bl _)⟩
    · cases hz
  · cases hz
theorem v_notIn (hu : X.A.units + 65 < cLine) : OpV X ρ (compareOp .NotIn) oNotIn := by
  refine ⟨_, OpR.or (op_notInD hu) op_notIn_sign, fun π e σ w x y dx dy z Q m hx hy hz k => ?_⟩
  unfold oNotIn at hz
  split at hz
  · split at hz
    · rename_i hc
      cases hz
      exact .inl ⟨_, _, hx.dp m.sub hc.1, hy.dp m.sub hc.2, hc.1, hc.2, sc_end m k (.bl _)⟩
    · cases hz
  · split at hz
    · rename_i hc
      cases hz; cases hx; cases hy
      exact .inr ⟨_, _, congrArg V.str (sign_of hc), rfl, sc_end m k (.bl _)⟩
    · cases hz
  · cases hz
theorem v_is : OpV X ρ (compareOp .Is) oIs := by
  refine ⟨_, OpR.or op_isN op_isBl, fun π e σ w x y dx dy z Q m hx hy hz k => ?_⟩
  unfold oIs at hz
  split at hz
  · cases hz
    obtain rfl : y = .non := hy
    refine .inl ⟨rfl, ?_⟩
    have e1 : decide (x = V.non) = isNone dx := by
      cases dx with
      | none => cases hx; rfl
      | bool b => cases hx; rfl
      | int b => cases hx; rfl
      | str b => cases hx; rfl
      | list b => obtain ⟨a, xs, rfl, _⟩ := hx; rfl
      | tuple b => obtain ⟨a, xs, rfl, _⟩ := hx; rfl
      | dict b => obtain ⟨a, xs, rfl, _⟩ := hx; rfl
    rw [e1]
    exact sc_end m k (.bl _)
  · cases hz; cases hx; cases hy
    exact .inr ⟨_, _, rfl, rfl, sc_end m k (.bl _)⟩
  · cases hz
theorem v_isNot : OpV X ρ (compareOp .IsNot) oIsNot := by
  refine ⟨_, OpR.or op_notN op_notBl, fun π e σ w x y dx dy z Q m hx hy hz k => ?_⟩
  unfold oIsNot at hz
  split at hz
  · cases hz
    obtain rfl : y = .non := hy
    refine .inl ⟨rfl, ?_⟩
    have e1 : decide (x = V.non) = isNone dx := by
      cases dx with
      | none => cases hx; rfl
      | bool b => cases hx; rfl
      | int b => cases hx; rfl
      | str b => cases hx; rfl
      | list b => obtain ⟨a, xs, rfl, _⟩ := hx; rfl
      | tuple b => obtain ⟨a, xs, rfl, _⟩ := hx; rfl
      | dict b => obtain ⟨a, xs, rfl, _⟩ := hx; rfl
    rw [e1]
    exact sc_end m k (.bl _)
  · cases hz; cases hx; cases hy
    exact .inr ⟨_, _, rfl, rfl, sc_end m k (.bl _)⟩
  · cases hz
/-! ### subscripts -/
theorem rp_at {K : PySem.W.Frag} {G : Hp} {xs : List V} {ds : List PyData} {i : Int} {d : PyData} (r : RpAll K G xs ds) (h : atI ds i = some d) : ∃ v, atI xs i = some v ∧ Rp K G v d := by
  unfold atI at h ⊢
  rw [r.length]
  cases q : ixN ds.length i with
  | none => rw [q] at h; cases h
  | some j =>
    rw [q] at h
    exact r.get h
theorem ve_ix (ha : VE X ρ W a fa) (hb : VE X ρ W b fb) (hs : PlainIx b := by exact fun _ _ => rfl) : VE X ρ W (.Subscript a b pos) (fBin oIx fa fb) := by
  obtain ⟨t, p, s⟩ := ha
  obtain ⟨t2, p2, s2⟩ := hb
  refine ⟨_, pe_ix ix_seq p p2 hs, se_bin (fun π e σ w x y dx dy z Q m hx hy hz k => ?_) s s2⟩
  unfold oIx at hz
  split at hz
  · cases hy
    obtain ⟨q, xs, rfl, hq, rq⟩ := hx
    rename_i ds i
    cases hd : atI ds i with
    | none => rw [hd] at hz; cases hz
    | some d =>
      rw [hd] at hz
      cases hz
      obtain ⟨v, h1, h2⟩ := rp_at rq hd
      exact .inl ⟨q, xs, i, v, rfl, rfl, .of hq, h1, sc_end m k h2⟩
  · cases hy
    obtain ⟨q, xs, rfl, hq, rq⟩ := hx
    rename_i ds i
    cases hd : atI ds i with
    | none => rw [hd] at hz; cases hz
    | some d =>
      rw [hd] at hz
      cases hz
      obtain ⟨v, h1, h2⟩ := rp_at rq hd
      exact .inr (.inl ⟨q, xs, i, v, rfl, rfl, .of (m.sub _ _ hq), h1, sc_end m k h2⟩)
  · split at hz
    · rename_i zz i hb
      cases hx; cases hy
      cases hd : atI zz.cps.toList i with
      | none => rw [hd] at hz; cases hz
      | some d =>
        rw [hd] at hz
        cases hz
        exact .inr (.inr ⟨zz, i, d, rfl, rfl, le_big hb, hd, sc_end m k (.str _)⟩)
    · cases hz
  · cases hz
/-! ### slices -/
def VO (X : Cx) (ρ : Nat → Res) (W : WX) (e : Option Expr) (f : FO) : Prop := ∃ t, PO X e t ∧ ∀ π env σ w Q, Mt (cc X ρ) π env σ w → Post (cc X ρ) W π σ w (f env) (fun _ b b' => b = b') Q → t σ w.H Q
theorem vo_no : VO X ρ W none oNo := ⟨_, po_none, fun π e σ w Q m h => h none w m (.refl w) rfl⟩
theorem vo_some (ha : VE X ρ W a fa) : VO X ρ W (some a) (oSome fa) := by
  obtain ⟨t, p, s⟩ := ha
  refine ⟨_, po_some p, fun π e σ w Q m h => ?_⟩
  refine s π e σ w _ m (h.bnd fun o1 e1 v1 w1 m1 f1 k1 h1 => ?_)
  cases q1 : res e1 o1 with
  | none => rw [q1] at h1; exact h1.elim
  | some d1 =>
    rw [q1] at h1
    have r := res_sound m1 k1 q1
    split at h1
    · rename_i bb z; cases z; cases r
      exact ⟨_, rfl, h1 _ w1 m1 f1 rfl⟩
    · exact h1.elim
theorem ve_sl {lo hi : Option Expr} {fl fh : FO} {p2 : Pos} (ha : VE X ρ W a fa) (hl : VO X ρ W lo fl) (hh : VO X ρ W hi fh) : VE X ρ W (.Subscript a (.Slice lo hi none p2) pos) (fSl fa fl fh) := by
  obtain ⟨t, p, s⟩ := ha
  obtain ⟨t1, p1, s1⟩ := hl
  obtain ⟨t2, p2', s2⟩ := hh
  refine ⟨_, pe_slice (SlR.or sl_list sl_str) p p1 p2', fun π e σ w Q m h => ?_⟩
  refine s π e σ w _ m (h.bnd fun o1 e1 v1 w1 m1 f1 k1 h1 => ?_)
  refine s1 π e1 σ w1 _ m1 ((h1.from f1).bnd fun l e2 l' w2 m2 f2 k2 h2 => ?_)
  subst k2
  refine s2 π e2 σ w2 _ m2 ((h2.from f2).bnd fun u e3 u' w3 m3 f3 k3 h3 => ?_)
  subst k3
  have h4 := h3.from f3
  cases q1 : res e3 o1 with
  | none => rw [q1] at h4; exact h4.elim
  | some d1 =>
    rw [q1] at h4
    simp only [Option.bind_some] at h4
    have r := res_sound m3 ((k1.step f2).step f3) q1
    cases q2 : oSl d1 l u with
    | none => rw [q2] at h4; exact h4.elim
    | some z =>
      rw [q2] at h4
      cases d1 with
      | list ds =>
        cases q2
        obtain ⟨q, xs, rfl, hq, rq⟩ := r
        refine .inl ⟨q, xs, rfl, .of hq, fun p hp => ?_⟩
        have rz : RpAll X.K w3.G (cutV xs l u) (cutD ds l u) := by
          unfold cutV cutD
          rw [rq.length]
          exact (rq.drop _).take _
        obtain ⟨m5, f5, k5⟩ := mk_lst m3 hp rz
        exact h4 _ _ m5 f5 (k5.base ((f1.trans f2).trans f3))
      | str zz =>
        have q2' : (if zz.length ≤ big then some (B.fr (.str (cutS zz l u))) else none) = some z := q2
        split at q2'
        · rename_i hb
          cases q2'; cases r
          exact .inr ⟨_, rfl, le_big hb, h4 _ w3 m3 (.refl _) (.fr (.str _))⟩
        · cases q2'
      | none => cases q2
      | bool i => cases q2
      | int i => cases q2
      | tuple i => cases q2
      | dict i => cases q2
theorem ve_rev {p1 p2 p3 : Pos} {kk} (ha : VE X ρ W a fa) : VE X ρ W (.Subscript a (.Slice none none (some (.UnaryOp .USub (.Constant (.int 1) kk p1) p2)) p3) pos) (fUn oRev fa) := by
  obtain ⟨t, p, s⟩ := ha
  refine ⟨_, pe_revL p, se_un (r := fun x H Q => ∃ a xs, x = .ref a ∧ SqL X.K H a xs ∧ ∀ p, H p = none → Q (.ref p) (upd H p (.lst xs.reverse))) (fun π e σ w x dx z Q m hx hz k => ?_) s⟩
  unfold oRev at hz
  split at hz
  · cases hz
    obtain ⟨q, xs, rfl, hq, rq⟩ := hx
    refine ⟨q, xs, rfl, .of hq, fun p hp => ?_⟩
    obtain ⟨m5, f5, k5⟩ := mk_lst m hp rq.reverse
    exact k _ _ m5 f5 k5
  · cases hz
end
end VL

set_option maxRecDepth 100000
/-! VL4: calls of built-ins. -/
namespace VL
open PySem L2
section
variable {X : Cx} {ρ : Nat → Res} {W : WX} {a b c : Expr} {es : List Expr} {pos p : Pos} {fa fb fc : FE} {ta tb tc : FT} {fd : FD} {as_ : FA}
theorem va_nil : VA X ρ W [] aNil := ⟨_, pa_nil, fun π e σ w Q m h => h [] w m (.refl w) .nil⟩
theorem paired_step {C : Cc} {σ : St} {w w1 w2 : WS} (f : Frm w1 w2) : ∀ {os : List O} {vs : List V}, Paired (OOk C σ w w1) os vs → Paired (OOk C σ w w2) os vs
  | _, _, .nil => .nil
  | _, _, .cons h t => .cons (h.step f) (paired_step f t)
theorem paired_base {C : Cc} {σ : St} {w w1 w' : WS} (f : Frm w w1) : ∀ {os : List O} {vs : List V}, Paired (OOk C σ w1 w') os vs → Paired (OOk C σ w w') os vs
  | _, _, .nil => .nil
  | _, _, .cons h t => .cons (h.base f) (paired_base f t)
theorem va_cons (ha : VE X ρ W a fa) (hr : VA X ρ W es as_) (hs : starEach (a :: es) X.env = (false, eval a X.env) :: starEach es X.env := by rfl) : VA X ρ W (a :: es) (aCons fa as_) := by
  obtain ⟨t, p, s⟩ := ha
  obtain ⟨t2, p2, s2⟩ := hr
  refine ⟨_, pa_cons p p2 hs, fun π e σ w Q m h => ?_⟩
  refine s π e σ w _ m (h.bnd fun o1 e1 v1 w1 m1 f1 k1 h1 => ?_)
  refine s2 π e1 σ w1 _ m1 ((h1.from f1).bnd fun os e3 vs w3 m3 f3 k3 h3 => ?_)
  exact h3.from f3 (v1 :: vs) w3 m3 (.refl _) (.cons (k1.step f3) (paired_base f1 k3))
/-- all read -/
inductive RqAll (K : PySem.W.Frag) (G H : Hp) : List V → List PyData → Prop
  | nil : RqAll K G H [] []
  | cons {v vs d ds} : Rq K G H v d → RqAll K G H vs ds → RqAll K G H (v :: vs) (d :: ds)
theorem resAll_sound {C : Cc} {π : List (Nat × V)} {e : Env} {σ : St} {w0 w : WS} (m : Mt C π e σ w) : ∀ {os : List O} {vs : List V} {ds : List PyData}, Paired (OOk C σ w0 w) os vs → resAll e os = some ds → RqAll C.K w.G w.H vs ds
  | _, _, ds, .nil, h => by cases h; exact .nil
  | o :: os, v :: vs, ds, .cons h t, hr => by
    unfold resAll at hr
    cases q : res e o with
    | none => rw [q] at hr; cases hr
    | some d =>
      rw [q] at hr
      cases q2 : resAll e os with
      | none => rw [q2] at hr; cases hr
      | some es =>
        rw [q2] at hr
        cases hr
        exact .cons (res_sound m h q) (resAll_sound m t q2)
def CallV (X : Cx) (ρ : Nat → Res) (v : Value) (g : List PyData → Option B) : Prop := ∃ r, CallR X v r ∧
  ∀ π e σ w xs ds z Q, Mt (cc X ρ) π e σ w → RqAll X.K w.G w.H xs ds → g ds = some z → (∀ v w', Mt (cc X ρ) π e σ w' → Frm w w' → OOk (cc X ρ) σ w w' (.b z) v → Q v w'.H) → r xs w.H Q
theorem se_cb {C : Cc} {r : List V → Hp → VK → Prop} {g : List PyData → Option B} {ta : TA} (hr : ∀ π e σ w xs ds z Q, Mt C π e σ w → RqAll C.K w.G w.H xs ds → g ds = some z → (∀ v w', Mt C π e σ w' → Frm w w' → OOk C σ w w' (.b z) v → Q v w'.H) → r xs w.H Q)
    (ha : SA C W ta as_) : SE C W (tCB r ta) (fCB g as_) := fun π e σ w Q m h => by
  refine ha π e σ w _ m (h.bnd fun os e1 vs w1 m1 f1 k1 h1 => ?_)
  have h3 := h1.from f1
  cases q1 : resAll e1 os with
  | none => rw [q1] at h3; exact h3.elim
  | some d1 =>
    rw [q1] at h3
    simp only [Option.bind_some] at h3
    cases q3 : g d1 with
    | none => rw [q3] at h3; exact h3.elim
    | some z =>
      rw [q3] at h3
      exact hr π e1 σ w1 vs d1 z Q m1 (resAll_sound m1 k1 q1) q3 fun v w' m' f' k' => h3 v w' m' f' (k'.base f1)
theorem ve_cb {id : String} {x : Str} {g : List PyData → Option B} (hc : CallV X ρ (.builtin id) g) (hm : X.mg x = none) (hv : bootBuiltins x = some (.builtin id)) (ha : VA X ρ W (a :: es) as_) (hg : Gl X x := by rfl) (hn : x ≠ "__name__" := by decide) (hdb : (x == ("__debug__" : Str)) = false := by decide)
    (he : starEach (a :: es) X.env = (false, eval a X.env) :: starEach es X.env := by rfl) (hpl : (backTo pos (starEach es X.env)).any (·.1) = false := by rfl) : VE X ρ W (.Call (.Name x p) (a :: es) [] pos) (fCB g as_) := by
  obtain ⟨r, h1, h2⟩ := hc
  obtain ⟨t, pa, s⟩ := ha
  exact ⟨_, pe_callB h1 hg hm hv pa hn hdb he hpl, se_cb h2 s⟩
theorem ve_ct {T : String} {x : Str} {g : List PyData → Option B} (hc : CallV X ρ (.type T) g) (hm : X.mg x = none) (hv : bootBuiltins x = some (.type T)) (ha : VA X ρ W (a :: es) as_) (hg : Gl X x := by rfl) (hn : x ≠ "__name__" := by decide) (hdb : (x == ("__debug__" : Str)) = false := by decide)
    (he : starEach (a :: es) X.env = (false, eval a X.env) :: starEach es X.env := by rfl) (hpl : (backTo pos (starEach es X.env)).any (·.1) = false := by rfl) : VE X ρ W (.Call (.Name x p) (a :: es) [] pos) (fCB g as_) := by
  obtain ⟨r, h1, h2⟩ := hc
  obtain ⟨t, pa, s⟩ := ha
  exact ⟨_, pe_callTy h1 hg hm hv pa hn hdb he hpl, se_cb h2 s⟩
/-! ### the built-ins -/
theorem ints_of {K : PySem.W.Frag} {G : Hp} : ∀ {ds : List PyData} {ns : List Int} {xs : List V}, asInts ds = some ns → RpAll K G xs ds → xs = ns.map V.int ∧ ds = ns.map .int
  | [], ns, xs, h, r => by cases h; cases r; exact ⟨rfl, rfl⟩
  | .int i :: ds, ns, xs, h, r => by
    unfold asInts at h
    cases q : asInts ds with
    | none => rw [q] at h; cases h
    | some ms =>
      rw [q] at h
      cases h
      cases r with
      | cons r1 r2 =>
        cases r1
        obtain ⟨e1, e2⟩ := ints_of q r2
        exact ⟨by rw [e1]; rfl, by rw [e2]; rfl⟩
  | .none :: ds, ns, xs, h, r => by cases h
  | .bool _ :: ds, ns, xs, h, r => by cases h
  | .str _ :: ds, ns, xs, h, r => by cases h
  | .list _ :: ds, ns, xs, h, r => by cases h
  | .tuple _ :: ds, ns, xs, h, r => by cases h
  | .dict _ :: ds, ns, xs, h, r => by cases h
theorem rp_ints {K : PySem.W.Frag} {G : Hp} : ∀ ns : List Int, RpAll K G (ns.map V.int) (ns.map .int)
  | [] => .nil
  | n :: ns => .cons (.int n) (rp_ints ns)
theorem fold_max_mem (x : Int) : ∀ xs : List Int, xs.foldl max x ∈ x :: xs ∧ ∀ y ∈ x :: xs, y ≤ xs.foldl max x := by
  intro xs
  induction xs generalizing x with
  | nil => exact ⟨by simp, fun y h => by simp at h; subst h; exact Int.le_refl _⟩
  | cons z xs ih =>
    obtain ⟨h1, h2⟩ := ih (max x z)
    show xs.foldl max (max x z) ∈ _ ∧ _
    refine ⟨?_, fun y hy => ?_⟩
    · rcases List.mem_cons.mp h1 with e | e
      · rw [e]
        by_cases hz : z ≤ x
        · rw [Int.max_eq_left hz]; simp
        · rw [Int.max_eq_right (by omega)]; simp
      · exact List.mem_cons_of_mem _ (List.mem_cons_of_mem _ e)
    · have hm := h2 (max x z) (by simp)
      rcases List.mem_cons.mp hy with e | hy
      · subst e; exact Int.le_trans (Int.le_max_left _ _) hm
      · rcases List.mem_cons.mp hy with e | hy
        · subst e; exact Int.le_trans (Int.le_max_right _ _) hm
        · exact h2 y (List.mem_cons_of_mem _ hy)
theorem fold_min_mem (x : Int) : ∀ xs : List Int, xs.foldl min x ∈ x :: xs ∧ ∀ y ∈ x :: xs, xs.foldl min x ≤ y := by
  intro xs
  induction xs generalizing x with
  | nil => exact ⟨by simp, fun y h => by simp at h; subst h; exact Int.le_refl _⟩
  | cons z xs ih =>
    obtain ⟨h1, h2⟩ := ih (min x z)
    show xs.foldl min (min x z) ∈ _ ∧ _
    refine ⟨?_, fun y hy => ?_⟩
    · rcases List.mem_cons.mp h1 with e | e
      · rw [e]
        by_cases hz : x ≤ z
        · rw [Int.min_eq_left hz]; simp
        · rw [Int.min_eq_right (by omega)]; simp
      · exact List.mem_cons_of_mem _ (List.mem_cons_of_mem _ e)
    · have hm := h2 (min x z) (by simp)
      rcases List.mem_cons.mp hy with e | hy
      · subst e; exact Int.le_trans hm (Int.min_le_left _ _)
      · rcases List.mem_cons.mp hy with e | hy
        · subst e; exact Int.le_trans hm (Int.min_le_right _ _)
        · exact h2 y (List.mem_cons_of_mem _ hy)
theorem maxI_uniq {ns : List Int} {m : Int} (hne : ns ≠ []) (h1 : m ∈ ns) (h2 : ∀ y, y ∈ ns → y ≤ m) : m = maxI ns := by
  cases ns with
  | nil => exact absurd rfl hne
  | cons x xs =>
    obtain ⟨k1, k2⟩ := fold_max_mem x xs
    exact Int.le_antisymm (k2 m h1) (h2 _ k1)
theorem minI_uniq {ns : List Int} {m : Int} (hne : ns ≠ []) (h1 : m ∈ ns) (h2 : ∀ y, y ∈ ns → m ≤ y) : m = minI ns := by
  cases ns with
  | nil => exact absurd rfl hne
  | cons x xs =>
    obtain ⟨k1, k2⟩ := fold_min_mem x xs
    exact Int.le_antisymm (h2 _ k1) (k2 m h1)
theorem v_len : CallV X ρ (.builtin "len") gLen := by
  refine ⟨_, CallR.or call_len_seq (CallR.or call_len_str call_lenD), fun π e σ w xs ds z Q m hx hz k => ?_⟩
  unfold gLen at hz
  split at hz
  · cases hz
    cases hx with
    | cons r t =>
      cases t
      obtain ⟨q, ys, rfl, hq, rq⟩ := r
      refine .inl ⟨q, ys, rfl, .inl (.of hq), ?_⟩
      rw [rq.length]
      exact sc_end m k (.int _)
  · cases hz
    cases hx with
    | cons r t =>
      cases t
      obtain ⟨q, ys, rfl, hq, rq⟩ := r
      refine .inl ⟨q, ys, rfl, .inr (.of (m.sub _ _ hq)), ?_⟩
      rw [rq.length]
      exact sc_end m k (.int _)
  · split at hz
    · rename_i hb
      cases hz
      cases hx with
      | cons r t =>
        cases t
        cases r
        exact .inr (.inl ⟨_, rfl, le_big hb, sc_end m k (.int _)⟩)
    · cases hz
  · cases hz
    cases hx with
    | cons r t =>
      cases t
      obtain ⟨q, ys, rfl, hq, e1, rq⟩ := r
      refine .inr (.inr ⟨q, ys, rfl, hq, ?_⟩)
      have e2 := congrArg List.length e1
      rw [List.length_map, List.length_map] at e2
      rw [e2]
      exact sc_end m k (.int _)
  · cases hz
theorem v_abs : CallV X ρ (.builtin "abs") gAbs := by
  refine ⟨_, call_abs, fun π e σ w xs ds z Q m hx hz k => ?_⟩
  unfold gAbs at hz
  split at hz
  · cases hz
    cases hx with
    | cons r t =>
      cases t
      cases r
      exact ⟨_, rfl, sc_end m k (.int _)⟩
  · cases hz
theorem v_max (hc : X.calm = true) : CallV X ρ (.builtin "max") gMax := by
  refine ⟨_, CallR.or (call_max2 hc) (cr_max hc), fun π e σ w xs ds z Q m hx hz k => ?_⟩
  unfold gMax at hz
  split at hz
  · cases hz
    cases hx with
    | cons r t =>
      cases t with
      | cons r2 t =>
        cases t
        cases r
        cases r2
        exact .inl ⟨_, _, rfl, sc_end m k (.int _)⟩
  · rename_i d ds
    cases q : asInts (d :: ds) with
    | none => rw [q] at hz; cases hz
    | some ns =>
      rw [q] at hz
      cases hz
      cases hx with
      | cons r t =>
        cases t
        obtain ⟨p, ys, rfl, hp, rp⟩ := r
        obtain ⟨e1, e2⟩ := ints_of q rp
        subst e1
        have hne : ns ≠ [] := by
          rintro rfl
          cases e2
        refine .inr ⟨p, ns, rfl, .of hp, List.length_pos_iff.mpr hne, fun mm h1 h2 => ?_⟩
        rw [maxI_uniq hne h1 h2]
        exact sc_end m k (.int _)
  · cases hz
theorem v_min (hc : X.calm = true) : CallV X ρ (.builtin "min") gMin := by
  refine ⟨_, CallR.or (call_min2 hc) (cr_min hc), fun π e σ w xs ds z Q m hx hz k => ?_⟩
  unfold gMin at hz
  split at hz
  · cases hz
    cases hx with
    | cons r t =>
      cases t with
      | cons r2 t =>
        cases t
        cases r
        cases r2
        exact .inl ⟨_, _, rfl, sc_end m k (.int _)⟩
  · rename_i d ds
    cases q : asInts (d :: ds) with
    | none => rw [q] at hz; cases hz
    | some ns =>
      rw [q] at hz
      cases hz
      cases hx with
      | cons r t =>
        cases t
        obtain ⟨p, ys, rfl, hp, rp⟩ := r
        obtain ⟨e1, e2⟩ := ints_of q rp
        subst e1
        have hne : ns ≠ [] := by
          rintro rfl
          cases e2
        refine .inr ⟨p, ns, rfl, .of hp, List.length_pos_iff.mpr hne, fun mm h1 h2 => ?_⟩
        rw [minI_uniq hne h1 h2]
        exact sc_end m k (.int _)
  · cases hz
theorem v_sum (hc : X.calm = true) : CallV X ρ (.builtin "sum") gSum := by
  refine ⟨_, cr_sum hc, fun π e σ w xs ds z Q m hx hz k => ?_⟩
  unfold gSum at hz
  split at hz
  · rename_i ds
    cases q : asInts ds with
    | none => rw [q] at hz; cases hz
    | some ns =>
      rw [q] at hz
      cases hz
      cases hx with
      | cons r t =>
        cases t
        obtain ⟨p, ys, rfl, hp, rp⟩ := r
        obtain ⟨e1, e2⟩ := ints_of q rp
        subst e1
        exact ⟨p, ns, rfl, .of hp, sc_end m k (.int _)⟩
  · cases hz
theorem v_int : CallV X ρ (.type "int") gInt := by
  refine ⟨_, call_int1, fun π e σ w xs ds z Q m hx hz k => ?_⟩
  unfold gInt at hz
  split at hz
  · cases hz
    cases hx with
    | cons r t =>
      cases t
      cases r
      exact .inl ⟨_, rfl, sc_end m k (.int _)⟩
  · cases hz
    cases hx with
    | cons r t =>
      cases t
      cases r
      exact .inr ⟨_, rfl, sc_end m k (.int _)⟩
  · cases hz
theorem v_list : CallV X ρ (.type "list") gList := by
  refine ⟨_, call_list_of, fun π e σ w xs ds z Q m hx hz k => ?_⟩
  unfold gList at hz
  split at hz
  · cases hz
    cases hx with
    | cons r t =>
      cases t
      obtain ⟨q, ys, rfl, hq, rq⟩ := r
      refine ⟨q, ys, rfl, .inl (.of hq), fun p hp => ?_⟩
      obtain ⟨m5, f5, k5⟩ := mk_lst m hp rq
      exact k _ _ m5 f5 k5
  · cases hz
    cases hx with
    | cons r t =>
      cases t
      obtain ⟨q, ys, rfl, hq, rq⟩ := r
      refine ⟨q, ys, rfl, .inr (.of (m.sub _ _ hq)), fun p hp => ?_⟩
      obtain ⟨m5, f5, k5⟩ := mk_lst m hp rq
      exact k _ _ m5 f5 k5
  · cases hz
theorem v_tuple : CallV X ρ (.type "tuple") gTuple := by
  refine ⟨_, call_tuple_of, fun π e σ w xs ds z Q m hx hz k => ?_⟩
  unfold gTuple at hz
  split at hz
  · cases hz
    cases hx with
    | cons r t =>
      cases t
      obtain ⟨q, ys, rfl, hq, rq⟩ := r
      refine ⟨q, ys, rfl, .inl ⟨.of hq, fun p hp => ?_⟩⟩
      obtain ⟨w5, m5, f5, eH, k5⟩ := mk_tup m hp rq
      rw [← eH]
      exact k _ _ m5 f5 k5
  · cases hz
    cases hx with
    | cons r t =>
      cases t
      obtain ⟨q, ys, rfl, hq, rq⟩ := r
      exact ⟨q, ys, rfl, .inr ⟨.of (m.sub _ _ hq), sc_end m k (.tup hq rq)⟩⟩
  · cases hz
theorem sorted_uniq {ns ms : List Int} (h1 : ms.Perm ns) (h2 : ms.Pairwise (· ≤ ·)) : ms = ns.mergeSort leI := by
  have t : ∀ a b c : Int, leI a b = true → leI b c = true → leI a c = true := fun a b c x y => by unfold leI at *; simp only [decide_eq_true_eq] at *; omega
  have tt : ∀ a b : Int, (leI a b || leI b a) = true := fun a b => by unfold leI; simp only [Bool.or_eq_true, decide_eq_true_eq]; omega
  have h3 := List.pairwise_mergeSort t tt ns
  have h4 := List.mergeSort_perm ns leI
  refine List.Perm.eq_of_pairwise (le := fun a b : Int => a ≤ b) (fun a b _ _ x y => Int.le_antisymm x y) h2 ?_ (h1.trans h4.symm)
  exact h3.imp fun {a b} h => by unfold leI at h; exact of_decide_eq_true h
theorem v_sorted : CallV X ρ (.builtin "sorted") gSorted := by
  refine ⟨_, cr_sortedI, fun π e σ w xs ds z Q m hx hz k => ?_⟩
  unfold gSorted at hz
  split at hz
  · rename_i ds
    cases q : asInts ds with
    | none => rw [q] at hz; cases hz
    | some ns =>
      rw [q] at hz
      cases hz
      cases hx with
      | cons r t =>
        cases t
        obtain ⟨p, ys, rfl, hp, rp⟩ := r
        obtain ⟨e1, e2⟩ := ints_of q rp
        subst e1
        refine ⟨p, ns, rfl, .of hp, fun ms r h1 h2 hr => ?_⟩
        rw [sorted_uniq h1 h2]
        obtain ⟨m5, f5, k5⟩ := mk_lst m hr (rp_ints _)
        exact k _ _ m5 f5 k5
  · cases hz
end
end VL

set_option maxRecDepth 100000
/-! VL5: what is walked, targets, statements, loops, comprehensions. -/
namespace VL
open PySem L2
section
variable {C : Cc} {π : List (Nat × V)} {e : Env} {σ : St} {w : WS}
/-! ### names forgotten -/
theorem at_forget : ∀ {vs : List Nat} {e : Env} {i : Nat} {b : B}, at? (forget vs e) i = some b → at? e i = some b ∧ i ∉ vs
  | [], e, i, b, h => ⟨h, by simp⟩
  | v :: vs, e, i, b, h => by
    obtain ⟨h1, h2⟩ := at_forget (vs := vs) (e := e.set v none) h
    by_cases z : v = i
    · subst z
      unfold at? at h1
      by_cases hv : v < e.length
      · rw [List.getElem?_set_self hv] at h1; cases h1
      · rw [List.getElem?_eq_none (by simpa using hv)] at h1; cases h1
    · rw [at_set_ne z] at h1
      exact ⟨h1, by simp only [List.mem_cons, not_or]; exact ⟨fun q => z q.symm, h2⟩⟩
theorem forget_length : ∀ (vs : List Nat) (e : Env), (forget vs e).length = e.length
  | [], e => rfl
  | v :: vs, e => by
    show (forget vs (e.set v none)).length = e.length
    rw [forget_length vs, List.length_set]
/-- fewer names -/
theorem Mt.less {e' : Env} (m : Mt C π e σ w) (hl : e'.length = e.length) (h : ∀ i b, at? e' i = some b → at? e i = some b) : ∃ w', Mt C π e' σ w' ∧ Frm w w' ∧ w'.H = w.H ∧ w'.G = w.G ∧ ∀ i a, w'.fp i a → w.fp i a := by
  refine ⟨{ w with fp := fun i a => (at? e' i).isSome = true ∧ w.fp i a }, ⟨hl.trans m.len, m.sub, fun i b q => ?_, fun i q a z => ?_, fun i j a x y => m.dis i j a x.2 y.2, m.pin⟩, ⟨Same.refl _, fun a o h1 n => ⟨h1, rfl, fun i z => n i z.2⟩, fun _ h => h⟩, rfl, rfl, fun i a z => z.2⟩
  · obtain ⟨v, h1, h2⟩ := m.bok i b (h i b q)
    refine ⟨v, h1, ?_⟩
    have e1 : (fun a => (at? e' i).isSome = true ∧ w.fp i a) = w.fp i := by
      funext a
      exact propext ⟨fun z => z.2, fun z => ⟨by rw [q]; rfl, z⟩⟩
    show BOk C w.G w.H b v (fun a => (at? e' i).isSome = true ∧ w.fp i a)
    rw [e1]
    exact h2
  · have z1 : (at? e' i).isSome = true := z.1
    rw [q] at z1
    cases z1
theorem Mt.forget {vs : List Nat} (m : Mt C π e σ w) : ∃ w', Mt C π (forget vs e) σ w' ∧ Frm w w' ∧ w'.H = w.H ∧ w'.G = w.G ∧ ∀ i a, w'.fp i a → w.fp i a :=
  m.less (forget_length vs e) fun _ _ h => (at_forget h).1
/-- a name bound -/
theorem Mt.bind {w0 : WS} {i : Nat} {b : B} {v : V} {fp : Addr → Prop} (m : Mt C π e σ w) (f : Frm w0 w) (hp : ∀ p ∈ π, p.1 ≠ i) (hb : BOk C w.G w.H b v fp) (hf : ∀ a, fp a → (w0.H a = none ∨ ∃ i, w0.fp i a) ∧ ∀ j, ¬ w.fp j a) :
    ∃ w', Mt C π (e.set i (some b)) (σ.set i (some v)) w' ∧ Frm w0 w' ∧ w'.H = w.H ∧ w'.G = w.G := by
  by_cases hi : i < e.length
  case neg =>
    rw [List.set_eq_of_length_le (by omega), List.set_eq_of_length_le (by rw [← m.len]; omega)]
    exact ⟨w, m, f, rfl, rfl⟩
  have hi' : i < σ.length := by rw [← m.len]; exact hi
  refine ⟨{ w with fp := fun j a => if j = i then fp a else w.fp j a }, ⟨by rw [List.length_set, List.length_set]; exact m.len, m.sub, fun j c q => ?_, fun j q a z => ?_, fun j k a x y => ?_, fun p h => ?_⟩, ⟨f.g, fun a o h n => ?_, f.t⟩, rfl, rfl⟩
  · by_cases hj : i = j
    · subst hj
      rw [at_set_lt hi] at q
      cases q
      refine ⟨v, List.getElem?_set_self hi', ?_⟩
      have e1 : (fun a => if i = i then fp a else w.fp i a) = fp := by funext a; rw [if_pos rfl]
      show BOk C w.G w.H b v (fun a => if i = i then fp a else w.fp i a)
      rw [e1]
      exact hb
    · rw [at_set_ne hj] at q
      obtain ⟨u, h1, h2⟩ := m.bok j c q
      refine ⟨u, by rw [List.getElem?_set_ne hj]; exact h1, ?_⟩
      have e1 : (fun a => if j = i then fp a else w.fp j a) = w.fp j := by funext a; rw [if_neg (Ne.symm hj)]
      show BOk C w.G w.H c u (fun a => if j = i then fp a else w.fp j a)
      rw [e1]
      exact h2
  · by_cases hj : i = j
    · subst hj
      rw [at_set_lt hi] at q
      cases q
    · rw [at_set_ne hj] at q
      have z' : if j = i then fp a else w.fp j a := z
      rw [if_neg (Ne.symm hj)] at z'
      exact m.non j q a z'
  · have x' : if j = i then fp a else w.fp j a := x
    have y' : if k = i then fp a else w.fp k a := y
    by_cases hj : j = i
    · by_cases hk : k = i
      · rw [hj, hk]
      · rw [if_pos hj] at x'
        rw [if_neg hk] at y'
        exact absurd y' ((hf a x').2 k)
    · by_cases hk : k = i
      · rw [if_neg hj] at x'
        rw [if_pos hk] at y'
        exact absurd x' ((hf a y').2 j)
      · rw [if_neg hj] at x'
        rw [if_neg hk] at y'
        exact m.dis j k a x' y'
  · rw [List.getElem?_set_ne (fun z => hp p h z.symm)]
    exact m.pin p h
  · obtain ⟨h1, h2, h3⟩ := f.k a o h n
    refine ⟨h1, h2, fun j z => ?_⟩
    have z' : if j = i then fp a else w.fp j a := z
    by_cases hj : j = i
    · rw [if_pos hj] at z'
      rcases (hf a z').1 with q | ⟨k, q⟩
      · rw [h] at q; cases q
      · exact n k q
    · rw [if_neg hj] at z'
      exact h3 j z'
/-- a name's slot set where the old value was owned: its things are let go -/
theorem Mt.drop {i : Nat} (m : Mt C π e σ w) : ∃ w', Mt C π (e.set i none) σ w' ∧ Frm w w' ∧ w'.H = w.H ∧ w'.G = w.G ∧ ∀ j a, w'.fp j a → w.fp j a := by
  refine m.less (List.length_set) fun j b h => ?_
  by_cases hj : i = j
  · subst hj
    by_cases hi : i < e.length
    · rw [at_set_lt hi] at h; cases h
    · unfold at? at h
      rw [List.getElem?_eq_none (by simpa using hi)] at h; cases h
  · rw [at_set_ne hj] at h; exact h
end

section
variable {X : Cx} {ρ : Nat → Res} {W : WX} {pn : List Nat} {st : Stmt} {rest : List Stmt} {a b c : Expr} {es : List Expr} {pos p : Pos} {fa fb fc : FE} {ta tb tc : FT} {fd : FD} {as_ : FA} {f g : FS}
def VS (X : Cx) (ρ : Nat → Res) (W : WX) (pn : List Nat) (st : Stmt) (f : FS) : Prop := ∃ t, PS X st t ∧ SS (cc X ρ) W pn t f
def VSs (X : Cx) (ρ : Nat → Res) (W : WX) (pn : List Nat) (st : List Stmt) (f : FS) : Prop := ∃ t, PSs X st t ∧ SS (cc X ρ) W pn t f
theorem vss_nil : VSs X ρ W pn [] sNil := ⟨_, pss_nil, fun π e σ w D hp m h => h σ w m (.refl w)⟩
theorem vss_one (h : VS X ρ W pn st f) : VSs X ρ W pn [st] f := by
  obtain ⟨t, p, s⟩ := h
  exact ⟨t, pss_one p, s⟩
theorem vss_cons (h : VS X ρ W pn st f) (hr : VSs X ρ W pn rest g) : VSs X ρ W pn (st :: rest) (sSeq f g) := by
  obtain ⟨t, p, s⟩ := h
  obtain ⟨t2, p2, s2⟩ := hr
  refine ⟨_, pss_cons p p2, fun π e σ w D hp m h => ?_⟩
  refine s π e σ w _ hp m ?_
  unfold sSeq at h
  cases q : f e with
  | none => rw [q] at h; exact h.elim
  | some x =>
    rw [q] at h
    cases x with
    | nx e1 => exact fun σ' w' m' f' => s2 π e1 σ' w' D hp m' (h.from f')
    | rt b e1 => exact h
    | bk e1 => exact h
    | ct e1 => exact h
    | ex c e1 => exact h
theorem vs_pass : VS X ρ W pn (.Pass pos) sNil := ⟨_, ps_pass, fun π e σ w D hp m h => h σ w m (.refl w)⟩
theorem vs_brk : VS X ρ W pn (.Break pos) sBrk := ⟨_, ps_break, fun π e σ w D hp m h => h σ w m (.refl w)⟩
theorem vs_expr (he : VE X ρ W a fa) (hs : swapsWith a none pos.line X.env = pure false := by rfl) : VS X ρ W pn (.Expr a pos) (sExpr fa) := by
  obtain ⟨t, p, s⟩ := he
  refine ⟨_, ps_expr p hs, fun π e σ w D hp m h => ?_⟩
  refine s π e σ w _ m (h.bnd fun o1 e1 v1 w1 m1 f1 k1 h1 => ?_)
  exact h1 σ w1 m1 f1
theorem vs_if {sa sb : List Stmt} (hc : VT X ρ W a ta) (ha : VSs X ρ W pn sa f) (hb : VSs X ρ W pn sb g) : VS X ρ W pn (.If a sa sb pos) (sIf ta f g) := by
  obtain ⟨t, p, s⟩ := hc
  obtain ⟨t2, p2, s2⟩ := ha
  obtain ⟨t3, p3, s3⟩ := hb
  refine ⟨_, ps_if p p2 p3, fun π e σ w D hp m h => ?_⟩
  refine s π e σ w _ m (h.bnd fun o1 e1 v1 w1 m1 f1 k1 h1 => ?_)
  subst k1
  cases o1 with
  | true => rw [if_pos rfl]; exact s2 π e1 σ w1 D hp m1 (h1.from f1)
  | false => rw [if_neg Bool.false_ne_true]; exact s3 π e1 σ w1 D hp m1 (h1.from f1)
theorem ss_asg {C : Cc} {t : TE} {i : Nat} (hi : i ∉ pn) (s : SE C W t fa) : SS C W pn (tAsg t (gName i)) (sAsg i fa) := fun π e σ w D hp m h => by
  refine s π e σ w _ m (h.bnd fun o1 e1 v1 w1 m1 f1 k1 h1 => ?_)
  cases q : fzB e1 o1 with
  | none => rw [q] at h1; exact h1.elim
  | some pr =>
    rw [q] at h1
    obtain ⟨w2, m2, f2, eH, hb⟩ := fzB_sound (e' := pr.2) m1 f1 k1 q
    obtain ⟨w3, m3, f3, eH3, _⟩ := m2.bind f2 (fun p h (z : p.1 = i) => hi (z ▸ hp p h)) hb (fun _ z => z.elim)
    rw [← eH, ← eH3]
    exact h1 _ w3 m3 f3
theorem ss_own {C : Cc} {t : TE} {i : Nat} (hi : i ∉ pn) (s : SE C W t fa) : SS C W pn (tAsg t (gName i)) (sOwn i fa) := fun π e σ w D hp m h => by
  refine s π e σ w _ m (h.bnd fun o1 e1 v1 w1 m1 f1 k1 h1 => ?_)
  cases o1 with
  | s j => exact h1.elim
  | b b =>
    obtain ⟨fp, hb, hf⟩ := k1
    obtain ⟨w3, m3, f3, eH3, _⟩ := m1.bind f1 (fun p h (z : p.1 = i) => hi (z ▸ hp p h)) hb hf
    rw [← eH3]
    exact h1 _ w3 m3 f3
theorem vs_asg (V0 : X.N.Nodup) (i : Nat) {x : Str} {pos' : Pos} (he : VE X ρ W a fa) (hi : X.N[i]? = some x := by rfl) (hp : i ∉ pn := by decide) (hx : Loc X.env.scope x := by first | exact Or.inl rfl | exact Or.inr rfl) (hs : swapsWith a (some (.Name x pos')) pos.line X.env = pure false := by rfl)
    (hf : X.fn x = true ∨ X.env.scope.names.lookup x = some .local := by first | exact .inl rfl | exact .inr rfl) : VS X ρ W pn (.Assign [.Name x pos'] a pos) (sAsg i fa) := by
  obtain ⟨t, p, s⟩ := he
  exact ⟨_, ps_set V0 hi hx p hs hf, ss_asg hp s⟩
theorem vs_own (V0 : X.N.Nodup) (i : Nat) {x : Str} {pos' : Pos} (he : VE X ρ W a fa) (hi : X.N[i]? = some x := by rfl) (hp : i ∉ pn := by decide) (hx : Loc X.env.scope x := by first | exact Or.inl rfl | exact Or.inr rfl) (hs : swapsWith a (some (.Name x pos')) pos.line X.env = pure false := by rfl)
    (hf : X.fn x = true ∨ X.env.scope.names.lookup x = some .local := by first | exact .inl rfl | exact .inr rfl) : VS X ρ W pn (.Assign [.Name x pos'] a pos) (sOwn i fa) := by
  obtain ⟨t, p, s⟩ := he
  exact ⟨_, ps_set V0 hi hx p hs hf, ss_own hp s⟩
theorem vs_ret (he : VE X ρ W a fa) : VS X ρ W pn (.Return (some a) pos) (sRet fa) := by
  obtain ⟨t, p, s⟩ := he
  refine ⟨_, ps_ret p, fun π e σ w D hp m h => ?_⟩
  refine s π e σ w _ m (h.bnd fun o1 e1 v1 w1 m1 f1 k1 h1 => ?_)
  cases q : fzB e1 o1 with
  | none => rw [q] at h1; exact h1.elim
  | some pr =>
    rw [q] at h1
    obtain ⟨w2, m2, f2, eH, hb⟩ := fzB_sound (e' := pr.2) m1 f1 k1 q
    rw [← eH]
    exact h1 v1 σ w2 m2 f2 ⟨fun _ => False, hb, fun _ z => z.elim⟩
theorem vs_retO (he : VE X ρ W a fa) : VS X ρ W pn (.Return (some a) pos) (sRetO fa) := by
  obtain ⟨t, p, s⟩ := he
  refine ⟨_, ps_ret p, fun π e σ w D hp m h => ?_⟩
  refine s π e σ w _ m (h.bnd fun o1 e1 v1 w1 m1 f1 k1 h1 => ?_)
  cases o1 with
  | b b => exact h1 v1 σ w1 m1 f1 k1
  | s i =>
    cases q : at? e1 i with
    | none => simp only [q, Option.bind_none] at h1; exact h1.elim
    | some b =>
      simp only [q, Option.bind_some] at h1
      have hv : σ[i]? = some (some v1) := k1
      obtain ⟨u, g1, g2⟩ := m1.bok i b q
      rw [hv] at g1
      cases g1
      obtain ⟨w2, m2, f2, eH, eG, hl⟩ := m1.drop (i := i)
      rw [← eH]
      refine h1 v1 σ w2 m2 (f1.trans f2) ⟨w1.fp i, by rw [eG, eH]; exact g2, fun a ha => ⟨f1.back (.inr ⟨i, ha⟩), fun j z => ?_⟩⟩
      have hj := m1.dis i j a ha (hl j a z)
      subst hj
      have hi : i < e1.length := by
        unfold at? at q
        cases q2 : e1[i]? with
        | none => rw [q2] at q; cases q
        | some y => exact (List.getElem?_eq_some_iff.mp q2).1
      exact m2.non i (at_set_lt hi) a z
theorem vs_retN : VS X ρ W pn (.Return none pos) sRetN := ⟨_, ps_retN, fun π e σ w D hp m h => h .non σ w m (.refl w) (.fr .non)⟩

/-! ### what is walked -/
def ItOk (C : Cc) (G : Hp) (J : It) (ds : List PyData) : Prop := ∀ i π e σ w, Mt C π e σ w → Same G w.G → (i < ds.length → J.go i w.H) ∧ (ds.length ≤ i → J.stop i w.H) ∧
  ∀ x H', J.yld i w.H x H' → ∀ d, ds[i]? = some d → ∃ w', Mt C π e σ w' ∧ Frm w w' ∧ w'.H = H' ∧ Rp C.K w'.G x d
def SI (C : Cc) (W : WX) (wi : TI) (f : FI) : Prop := ∀ π e σ w (R : It → Hp → Prop), Mt C π e σ w → Post C W π σ w (f e) (fun w' ds J => ItOk C w'.G J ds) R → wi σ w.H R
def VI (X : Cx) (ρ : Nat → Res) (W : WX) (tg iter : Expr) (f : FI) : Prop := ∃ wi, PI X tg iter wi ∧ SI (cc X ρ) W wi f
theorem it_list {C : Cc} {G : Hp} {p : Addr} {xs : List V} {ds : List PyData} (h : G p = some (.lst xs)) (r : RpAll C.K G xs ds) : ItOk C G (Itl C.K p) ds := fun i π e σ w m s => by
  have hH : w.H p = some (.lst xs) := m.sub _ _ (s _ _ h)
  have hl := r.length
  refine ⟨fun hi => ⟨xs, xs[i]'(by omega), .of hH, List.getElem?_eq_getElem (by omega)⟩, fun hi => ⟨xs, .of hH, by omega⟩, fun x H' y d hd => ?_⟩
  obtain ⟨rfl, hx⟩ := y
  obtain ⟨v, h1, h2⟩ := r.get hd
  have := hx xs (.of hH)
  rw [h1] at this
  cases this
  exact ⟨w, m, .refl w, rfl, h2.mono s⟩
theorem it_tup {C : Cc} {G : Hp} {p : Addr} {xs : List V} {ds : List PyData} (h : G p = some (.tup xs)) (r : RpAll C.K G xs ds) : ItOk C G (Itt C.K p) ds := fun i π e σ w m s => by
  have hH : w.H p = some (.tup xs) := m.sub _ _ (s _ _ h)
  have hl := r.length
  refine ⟨fun hi => ⟨xs, xs[i]'(by omega), .of hH, List.getElem?_eq_getElem (by omega)⟩, fun hi => ⟨xs, .of hH, by omega⟩, fun x H' y d hd => ?_⟩
  obtain ⟨rfl, hx⟩ := y
  obtain ⟨v, h1, h2⟩ := r.get hd
  have := hx xs (.of hH)
  rw [h1] at this
  cases this
  exact ⟨w, m, .refl w, rfl, h2.mono s⟩
theorem it_rng {C : Cc} {G : Hp} {lo : Int} {n : Nat} : ItOk C G (Itr lo n) (rngN lo n) := fun i π e σ w m s => by
  have hl : (rngN lo n).length = n := by unfold rngN; rw [List.length_map, List.length_range]
  rw [hl]
  refine ⟨fun hi => hi, fun hi => hi, fun x H' y d hd => ?_⟩
  obtain ⟨rfl, rfl⟩ := y
  unfold rngN at hd
  rw [List.getElem?_map] at hd
  cases q : (List.range n)[i]? with
  | none => rw [q] at hd; cases hd
  | some k =>
    rw [q] at hd
    obtain ⟨h1, h2⟩ := List.getElem?_eq_some_iff.mp q
    rw [List.getElem_range] at h2
    subst h2
    cases hd
    exact ⟨w, m, .refl w, rfl, .int _⟩
theorem it_rngC {C : Cc} {G : Hp} {lo c : Int} {n : Nat} : ItOk C G (Itc lo c n) (rngC lo c n) := fun i π e σ w m s => by
  have hl : (rngC lo c n).length = n := by unfold rngC; rw [List.length_map, List.length_range]
  rw [hl]
  refine ⟨fun hi => hi, fun hi => hi, fun x H' y d hd => ?_⟩
  obtain ⟨rfl, rfl⟩ := y
  unfold rngC at hd
  rw [List.getElem?_map] at hd
  cases q : (List.range n)[i]? with
  | none => rw [q] at hd; cases hd
  | some k =>
    rw [q] at hd
    obtain ⟨h1, h2⟩ := List.getElem?_eq_some_iff.mp q
    rw [List.getElem_range] at h2
    subst h2
    cases hd
    exact ⟨w, m, .refl w, rfl, .int _⟩
theorem it_str {C : Cc} {G : Hp} {z : Str} : ItOk C G (Its z) (z.cps.toList.map fun c => .str ⟨#[c]⟩) := fun i π e σ w m s => by
  have hl : (z.cps.toList.map fun c => PyData.str ⟨#[c]⟩).length = z.cps.size := by rw [List.length_map]; simp
  rw [hl]
  refine ⟨fun hi => hi, fun hi => hi, fun x H' y d hd => ?_⟩
  obtain ⟨rfl, c, hc, rfl⟩ := y
  rw [List.getElem?_map] at hd
  have hc' : z.cps.toList[i]? = some c := by rw [Array.getElem?_toList]; exact hc
  rw [hc'] at hd
  cases hd
  exact ⟨w, m, .refl w, rfl, .str _⟩
theorem enumL_get : ∀ {ds : List PyData} {k i : Nat} {d : PyData}, (enumL k ds)[i]? = some d → ∃ d', ds[i]? = some d' ∧ d = .tuple [.int ((k + i : Nat) : Int), d']
  | [], k, i, d, h => by simp [enumL] at h
  | x :: ds, k, 0, d, h => by
    simp [enumL] at h
    exact ⟨x, rfl, h.symm⟩
  | x :: ds, k, i + 1, d, h => by
    have h' : (enumL (k + 1) ds)[i]? = some d := by simpa [enumL] using h
    obtain ⟨d', h1, h2⟩ := enumL_get h'
    exact ⟨d', by simpa using h1, by rw [h2]; congr 3; omega⟩
theorem enumL_length : ∀ (ds : List PyData) (k : Nat), (enumL k ds).length = ds.length
  | [], _ => rfl
  | x :: ds, k => by simp [enumL, enumL_length ds]
theorem it_enum {C : Cc} {G : Hp} {p : Addr} {xs : List V} {ds : List PyData} (h : G p = some (.lst xs)) (r : RpAll C.K G xs ds) : ItOk C G (Ite C.K p) (enumL 0 ds) := fun i π e σ w m s => by
  have hH : w.H p = some (.lst xs) := m.sub _ _ (s _ _ h)
  have hl := r.length
  rw [enumL_length]
  refine ⟨fun hi => ⟨xs, xs[i]'(by omega), .of hH, List.getElem?_eq_getElem (by omega)⟩, fun hi => ⟨xs, .of hH, by omega⟩, fun x H' y d hd => ?_⟩
  obtain ⟨T, z, rfl, hT, rfl, hx⟩ := y
  obtain ⟨d', h1, rfl⟩ := enumL_get hd
  obtain ⟨v, h2, h3⟩ := r.get h1
  have := hx xs (.of hH)
  rw [h2] at this
  cases this
  obtain ⟨w2, m2, f2, eH, fp, k2⟩ := mk_tup (es := [.int ((0 + i : Nat) : Int), d']) m hT (.cons (by rw [Nat.zero_add]; exact .int _) (.cons (h3.mono s) .nil))
  exact ⟨w2, m2, f2, eH, k2.1.1⟩
theorem it_zip {C : Cc} {G : Hp} {p q : Addr} {xs ys : List V} {ds es : List PyData} (h : G p = some (.lst xs)) (r : RpAll C.K G xs ds) (h' : G q = some (.lst ys)) (r' : RpAll C.K G ys es) :
    ItOk C G (Itz C.K p q) (List.zipWith (fun a b => .tuple [a, b]) ds es) := fun i π e σ w m s => by
  have hH : w.H p = some (.lst xs) := m.sub _ _ (s _ _ h)
  have hH' : w.H q = some (.lst ys) := m.sub _ _ (s _ _ h')
  have hl := r.length
  have hl' := r'.length
  rw [List.length_zipWith]
  refine ⟨fun hi => ⟨xs, ys, xs[i]'(by omega), ys[i]'(by omega), .of hH, .of hH', List.getElem?_eq_getElem (by omega), List.getElem?_eq_getElem (by omega)⟩, fun hi => ⟨xs, ys, .of hH, .of hH', by omega⟩, fun x H' y d hd => ?_⟩
  obtain ⟨T, z, z', rfl, hT, rfl, hx, hx'⟩ := y
  obtain ⟨d1, d2, g1, g2, rfl⟩ := (by
    rw [List.getElem?_zipWith] at hd
    cases q1 : ds[i]? with
    | none => rw [q1] at hd; cases hd
    | some d1 =>
      cases q2 : es[i]? with
      | none => rw [q1, q2] at hd; cases hd
      | some d2 =>
        rw [q1, q2] at hd
        cases hd
        exact ⟨d1, d2, rfl, rfl, rfl⟩ : ∃ d1 d2, ds[i]? = some d1 ∧ es[i]? = some d2 ∧ d = .tuple [d1, d2])
  obtain ⟨v, h2, h3⟩ := r.get g1
  obtain ⟨v', h2', h3'⟩ := r'.get g2
  have t1 := hx xs (.of hH)
  rw [h2] at t1
  cases t1
  have t2 := hx' ys (.of hH')
  rw [h2'] at t2
  cases t2
  obtain ⟨w2, m2, f2, eH, fp, k2⟩ := mk_tup (es := [d1, d2]) m hT (.cons (h3.mono s) (.cons (h3'.mono s) .nil))
  exact ⟨w2, m2, f2, eH, k2.1.1⟩
theorem vi_seq {tg : Expr} (ha : VE X ρ W a fa) : VI X ρ W tg a (iSeq fa) := by
  obtain ⟨t, p, s⟩ := ha
  refine ⟨_, pi_list p, fun π e σ w R m h => ?_⟩
  refine s π e σ w _ m (h.bnd fun o1 e1 v1 w1 m1 f1 k1 h1 => ?_)
  cases q : fz e1 o1 with
  | none => rw [q] at h1; exact h1.elim
  | some pr =>
    rw [q] at h1
    simp only [Option.bind_some] at h1
    obtain ⟨w2, m2, f2, eH, r2⟩ := fz_sound (e' := pr.2) m1 f1 k1 q
    obtain ⟨d, e2⟩ := pr
    cases d with
    | list ds =>
      cases r2 with
      | lst g1 g2 =>
        rw [← eH]
        exact ⟨_, rfl, ⟨_, .of (m2.sub _ _ g1)⟩, h1 _ w2 m2 f2 (it_list g1 g2)⟩
    | none => exact h1.elim
    | bool i => exact h1.elim
    | int i => exact h1.elim
    | str i => exact h1.elim
    | tuple i => exact h1.elim
    | dict i => exact h1.elim
theorem vi_tupl {tg : Expr} (ha : VE X ρ W a fa) : VI X ρ W tg a (iTupl fa) := by
  obtain ⟨t, p, s⟩ := ha
  refine ⟨_, pi_tup p, fun π e σ w R m h => ?_⟩
  refine s π e σ w _ m (h.bnd fun o1 e1 v1 w1 m1 f1 k1 h1 => ?_)
  cases q : fz e1 o1 with
  | none => rw [q] at h1; exact h1.elim
  | some pr =>
    rw [q] at h1
    simp only [Option.bind_some] at h1
    obtain ⟨w2, m2, f2, eH, r2⟩ := fz_sound (e' := pr.2) m1 f1 k1 q
    obtain ⟨d, e2⟩ := pr
    cases d with
    | tuple ds =>
      cases r2 with
      | tup g1 g2 =>
        rw [← eH]
        exact ⟨_, rfl, ⟨_, .of (m2.sub _ _ g1)⟩, h1 _ w2 m2 f2 (it_tup g1 g2)⟩
    | none => exact h1.elim
    | bool i => exact h1.elim
    | int i => exact h1.elim
    | str i => exact h1.elim
    | list i => exact h1.elim
    | dict i => exact h1.elim
theorem vi_text {tg : Expr} (ha : VE X ρ W a fa) : VI X ρ W tg a (iText fa) := by
  obtain ⟨t, p, s⟩ := ha
  refine ⟨_, pi_str p, fun π e σ w R m h => ?_⟩
  refine s π e σ w _ m (h.bnd fun o1 e1 v1 w1 m1 f1 k1 h1 => ?_)
  cases q : fz e1 o1 with
  | none => rw [q] at h1; exact h1.elim
  | some pr =>
    rw [q] at h1
    simp only [Option.bind_some] at h1
    obtain ⟨w2, m2, f2, eH, r2⟩ := fz_sound (e' := pr.2) m1 f1 k1 q
    obtain ⟨d, e2⟩ := pr
    cases d with
    | str z =>
      cases r2
      rw [← eH]
      exact ⟨_, rfl, h1 _ w2 m2 f2 it_str⟩
    | none => exact h1.elim
    | bool i => exact h1.elim
    | int i => exact h1.elim
    | tuple i => exact h1.elim
    | list i => exact h1.elim
    | dict i => exact h1.elim
theorem lim_ok {i : Int} (h : lim i = true) : -(2 ^ 62) ≤ i ∧ i < 2 ^ 62 := by
  unfold lim at h
  rw [decide_eq_true_eq] at h
  omega
theorem vi_range1 {tg : Expr} (hm : X.mg "range" = none) (ha : VE X ρ W a fa) (hg : Gl X "range" := by rfl) (hs : starEach [a] X.env = (false, eval a X.env) :: starEach [] X.env := by rfl) :
    VI X ρ W tg (.Call (.Name "range" p) [a] [] pos) (iRange1 fa) := by
  obtain ⟨t, p, s⟩ := ha
  refine ⟨_, pi_range1 hg hm (pa_cons p pa_nil hs) hs, fun π e σ w R m h => ?_⟩
  refine s π e σ w _ m (h.bnd fun o1 e1 v1 w1 m1 f1 k1 h1 => ?_)
  cases q1 : res e1 o1 with
  | none => rw [q1] at h1; exact h1.elim
  | some d1 =>
    rw [q1] at h1
    have r := res_sound m1 k1 q1
    split at h1
    · rename_i j z
      cases z; cases r
      split at h1
      · rename_i hl
        have hl' := lim_ok hl
        exact ⟨j, rfl, hl'.1, hl'.2, h1 _ w1 m1 f1 it_rng⟩
      · exact h1.elim
    · exact h1.elim
theorem vi_range2 {tg : Expr} (hm : X.mg "range" = none) (ha : VE X ρ W a fa) (hb : VE X ρ W b fb) (hg : Gl X "range" := by rfl) (hs : starEach [a, b] X.env = (false, eval a X.env) :: starEach [b] X.env := by rfl) (hs2 : starEach [b] X.env = (false, eval b X.env) :: starEach [] X.env := by rfl)
    (hpl : (backTo pos (starEach [b] X.env)).any (·.1) = false := by rfl) : VI X ρ W tg (.Call (.Name "range" p) [a, b] [] pos) (iRange2 fa fb) := by
  obtain ⟨t, p, s⟩ := ha
  obtain ⟨t2, p2, s2⟩ := hb
  refine ⟨_, pi_range2 hg hm (pa_cons p (pa_cons p2 pa_nil hs2) hs) (by rw [hs, hs2]; rfl) hs2, fun π e σ w R m h => ?_⟩
  refine s π e σ w _ m (h.bnd fun o1 e1 v1 w1 m1 f1 k1 h1 => ?_)
  refine s2 π e1 σ w1 _ m1 ((h1.from f1).bnd fun o2 e2 v2 w2 m2 f2 k2 h2 => ?_)
  have h3 := h2.from f2
  have r1 : ∀ d, res e2 o1 = some d → Rq (cc X ρ).K w2.G w2.H v1 d := fun d q => res_sound m2 (k1.step f2) q
  have r2 : ∀ d, res e2 o2 = some d → Rq (cc X ρ).K w2.G w2.H v2 d := fun d q => res_sound m2 k2 q
  split at h3
  · rename_i i j q1 q2
    have z1 := r1 _ q1
    have z2 := r2 _ q2
    cases z1; cases z2
    split at h3
    · rename_i hl
      have hi := lim_ok hl.1
      have hj := lim_ok hl.2
      exact ⟨i, j, rfl, ⟨hi.1, hi.2, hj.1, hj.2⟩, h3 _ w2 m2 (.refl _) it_rng⟩
    · exact h3.elim
  · exact h3.elim
theorem vi_range3 {tg : Expr} (hm : X.mg "range" = none) (ha : VE X ρ W a fa) (hb : VE X ρ W b fb) (hc : VE X ρ W c fc) (hg : Gl X "range" := by rfl) (hs : starEach [a, b, c] X.env = (false, eval a X.env) :: starEach [b, c] X.env := by rfl) (hs2 : starEach [b, c] X.env = (false, eval b X.env) :: starEach [c] X.env := by rfl)
    (hs3 : starEach [c] X.env = (false, eval c X.env) :: starEach [] X.env := by rfl) (hpl : (backTo pos (starEach [b, c] X.env)).any (·.1) = false := by rfl) : VI X ρ W tg (.Call (.Name "range" p) [a, b, c] [] pos) (iRange3 fa fb fc) := by
  obtain ⟨t, p, s⟩ := ha
  obtain ⟨t2, p2, s2⟩ := hb
  obtain ⟨t3, p3, s3⟩ := hc
  refine ⟨_, pi_range3 hg hm (pa_cons p (pa_cons p2 (pa_cons p3 pa_nil hs3) hs2) hs) hs hpl, fun π e σ w R m h => ?_⟩
  refine s π e σ w _ m (h.bnd fun o1 e1 v1 w1 m1 f1 k1 h1 => ?_)
  refine s2 π e1 σ w1 _ m1 ((h1.from f1).bnd fun o2 e2 v2 w2 m2 f2 k2 h2 => ?_)
  refine s3 π e2 σ w2 _ m2 ((h2.from f2).bnd fun o3 e3 v3 w3 m3 f3 k3 h3 => ?_)
  have h4 := h3.from f3
  have r1 : ∀ d, res e3 o1 = some d → Rq (cc X ρ).K w3.G w3.H v1 d := fun d q => res_sound m3 ((k1.step f2).step f3) q
  have r2 : ∀ d, res e3 o2 = some d → Rq (cc X ρ).K w3.G w3.H v2 d := fun d q => res_sound m3 (k2.step f3) q
  have r3 : ∀ d, res e3 o3 = some d → Rq (cc X ρ).K w3.G w3.H v3 d := fun d q => res_sound m3 k3 q
  split at h4
  · rename_i i j k q1 q2 q3
    have z1 := r1 _ q1
    have z2 := r2 _ q2
    have z3 := r3 _ q3
    cases z1; cases z2; cases z3
    split at h4
    · rename_i hl
      unfold rgc at hl
      simp only [Bool.and_eq_true, decide_eq_true_eq] at hl
      obtain ⟨⟨⟨c1, c2⟩, c3⟩, c4⟩ := hl
      exact ⟨i, j, k, _, rfl, ⟨c1, c2, c3, (Int.toNat_of_nonneg c4).symm⟩, h4 _ w3 m3 (.refl _) it_rngC⟩
    · exact h4.elim
  · exact h4.elim
theorem vi_enum {elts : List Expr} {kk : Nat} {tpos : Pos} (hm : X.mg "enumerate" = none) (ha : VE X ρ W a fa) (hg : Gl X "enumerate" := by rfl) (hs : starEach [a] X.env = [(false, eval a X.env)] := by rfl) :
    VI X ρ W (.Tuple elts kk tpos) (.Call (.Name "enumerate" p) [a] [] pos) (iEnumr fa) := by
  obtain ⟨t, p, s⟩ := ha
  refine ⟨_, pi_enum hg hm (pa_cons p pa_nil hs) hs, fun π e σ w R m h => ?_⟩
  refine s π e σ w _ m (h.bnd fun o1 e1 v1 w1 m1 f1 k1 h1 => ?_)
  cases q : fz e1 o1 with
  | none => rw [q] at h1; exact h1.elim
  | some pr =>
    rw [q] at h1
    simp only [Option.bind_some] at h1
    obtain ⟨w2, m2, f2, eH, r2⟩ := fz_sound (e' := pr.2) m1 f1 k1 q
    obtain ⟨d, e2⟩ := pr
    cases d with
    | list ds =>
      cases r2 with
      | lst g1 g2 =>
        rw [← eH]
        exact ⟨_, _, rfl, .of (m2.sub _ _ g1), h1 _ w2 m2 f2 (it_enum g1 g2)⟩
    | none => exact h1.elim
    | bool i => exact h1.elim
    | int i => exact h1.elim
    | str i => exact h1.elim
    | tuple i => exact h1.elim
    | dict i => exact h1.elim
theorem vi_zip {elts : List Expr} {kk : Nat} {tpos : Pos} (hm : X.mg "zip" = none) (ha : VE X ρ W a fa) (hb : VE X ρ W b fb) (hg : Gl X "zip" := by rfl) (hs : starEach [a, b] X.env = (false, eval a X.env) :: starEach [b] X.env := by rfl) (hs2 : starEach [b] X.env = (false, eval b X.env) :: starEach [] X.env := by rfl)
    (hpl : (backTo pos (starEach [b] X.env)).any (·.1) = false := by rfl) : VI X ρ W (.Tuple elts kk tpos) (.Call (.Name "zip" p) [a, b] [] pos) (iZipp fa fb) := by
  obtain ⟨t, p, s⟩ := ha
  obtain ⟨t2, p2, s2⟩ := hb
  refine ⟨_, pi_zip hg hm (pa_cons p (pa_cons p2 pa_nil hs2) hs) hs hpl, fun π e σ w R m h => ?_⟩
  refine s π e σ w _ m (h.bnd fun o1 e1 v1 w1 m1 f1 k1 h1 => ?_)
  cases q : fz e1 o1 with
  | none => rw [q] at h1; exact h1.elim
  | some pr =>
    rw [q] at h1
    simp only [Option.bind_some] at h1
    obtain ⟨wf, mf, ff, eH, rf⟩ := fz_sound (e' := pr.2) m1 f1 k1 q
    obtain ⟨d, e2⟩ := pr
    rw [← eH]
    refine s2 π e2 σ wf _ mf ((h1.from ff).bnd fun o2 e3 v2 w2 m2 f2 k2 h2 => ?_)
    cases q2 : fz e3 o2 with
    | none => rw [q2] at h2; exact h2.elim
    | some pr2 =>
      rw [q2] at h2
      simp only [Option.bind_some] at h2
      obtain ⟨wg, mg_, fg, eH2, rg⟩ := fz_sound (e' := pr2.2) m2 f2 k2 q2
      obtain ⟨d2, e4⟩ := pr2
      have rf2 := rf.mono fg.g
      cases d with
      | list ds =>
        cases d2 with
        | list es =>
          cases rf2 with
          | lst g1 g2 =>
            cases rg with
            | lst g3 g4 =>
              rw [← eH2]
              exact ⟨_, _, _, _, rfl, .of (mg_.sub _ _ g1), .of (mg_.sub _ _ g3), h2 _ wg mg_ fg (it_zip g1 g2 g3 g4)⟩
        | none => exact h2.elim
        | bool i => exact h2.elim
        | int i => exact h2.elim
        | str i => exact h2.elim
        | tuple i => exact h2.elim
        | dict i => exact h2.elim
      | none => exact h2.elim
      | bool i => exact h2.elim
      | int i => exact h2.elim
      | str i => exact h2.elim
      | tuple i => exact h2.elim
      | dict i => exact h2.elim
end
end VL

set_option maxRecDepth 100000
/-! VL6: targets, for, while, comprehensions. -/
namespace VL
open PySem L2
section
variable {X : Cx} {ρ : Nat → Res} {W : WX} {pn : List Nat} {st : Stmt} {rest : List Stmt} {a b c tg iter : Expr} {es : List Expr} {pos p : Pos} {fa fb fc : FE} {ta tb tc : FT} {f g : FS} {fi : FI} {ft : FG}
def SG (C : Cc) (pn : List Nat) (t : TG) (f : FG) : Prop := ∀ π e σ w d x e' (Q : St → Hp → Prop), (∀ p ∈ π, p.1 ∈ pn) → Mt C π e σ w → Rp C.K w.G x d → f d e = some e' → (∀ σ' w', Mt C π e' σ' w' → Frm w w' → w'.H = w.H → Q σ' w'.H) → t x σ w.H Q
/-- also what becomes of the slots: those of vs alone change -/
def VG (X : Cx) (ρ : Nat → Res) (pn : List Nat) (tg : Expr) (f : FG) : Prop := ∃ t, PG X tg t ∧ SG (cc X ρ) pn t f
theorem bind_fr {C : Cc} {π : List (Nat × V)} {e : Env} {σ : St} {w : WS} {i : Nat} {d : PyData} {x : V} (m : Mt C π e σ w) (hp : ∀ p ∈ π, p.1 ≠ i) (r : Rp C.K w.G x d) :
    ∃ w', Mt C π (e.set i (some (.fr d))) (σ.set i (some x)) w' ∧ Frm w w' ∧ w'.H = w.H ∧ w'.G = w.G := m.bind (.refl w) hp (fp := fun _ => False) ⟨r, fun _ z => z⟩ fun _ z => z.elim
theorem sg_name {C : Cc} {i : Nat} (hi : i ∉ pn) : SG C pn (gName i) (gN i) := fun π e σ w d x e' Q hp m r hf h => by
  cases hf
  obtain ⟨w', m', f', eH, _⟩ := bind_fr m (fun p hq (z : p.1 = i) => hi (z ▸ hp p hq)) r
  rw [← eH]
  exact h _ w' m' f' eH
theorem vg_name (V0 : X.N.Nodup) (i : Nat) {x : Str} (hi : X.N[i]? = some x := by rfl) (hx : Loc X.env.scope x := by first | exact Or.inl rfl | exact Or.inr rfl) (hp : i ∉ pn := by decide)
    (hf : X.fn x = true ∨ X.env.scope.names.lookup x = some .local := by first | exact .inl rfl | exact .inr rfl) : VG X ρ pn (.Name x pos) (gN i) := ⟨_, pg_name V0 hi hx hf, sg_name hp⟩
theorem rp_tup {K : PySem.W.Frag} {G : Hp} {x : V} {ds : List PyData} (r : Rp K G x (.tuple ds)) : ∃ p xs, x = .ref p ∧ G p = some (.tup xs) ∧ RpAll K G xs ds := by
  cases r with
  | tup h1 h2 => exact ⟨_, _, rfl, h1, h2⟩
theorem vg_t2 (V0 : X.N.Nodup) (hc : X.calm = true) (i j : Nat) {x y : Str} {px py : Pos} {kk} (hi : X.N[i]? = some x := by rfl) (hj : X.N[j]? = some y := by rfl) (hx : Loc X.env.scope x := by first | exact Or.inl rfl | exact Or.inr rfl) (hy : Loc X.env.scope y := by first | exact Or.inl rfl | exact Or.inr rfl)
    (hp : i ∉ pn := by decide) (hq : j ∉ pn := by decide)
    (hf : X.fn x = true ∨ X.env.scope.names.lookup x = some .local := by first | exact .inl rfl | exact .inr rfl) (hf2 : X.fn y = true ∨ X.env.scope.names.lookup y = some .local := by first | exact .inl rfl | exact .inr rfl)
    (hn : (assignEach [.Name x px, .Name y py] X.env).length = 2 := by rfl) (hst : (assignEach [.Name x px, .Name y py] X.env).findIdx? (·.1) = none := by rfl)
    (hs1 : (assignEach (.Name x px :: [.Name y py]) X.env).map (·.2) = assign (.Name x px) X.env :: (assignEach [.Name y py] X.env).map (·.2) := by rfl)
    (hs2 : (assignEach (.Name y py :: []) X.env).map (·.2) = assign (.Name y py) X.env :: (assignEach [] X.env).map (·.2) := by rfl) : VG X ρ pn (.Tuple [.Name x px, .Name y py] kk pos) (gT2 i j) := by
  refine ⟨_, pg_tup hc (pgs_cons (pg_name V0 hi hx hf) (pgs_cons (pg_name V0 hj hy hf2) pgs_nil hs2) hs1) hn hst, fun π e σ w d z e' Q hpi m r hg h => ?_⟩
  unfold gT2 at hg
  split at hg
  · cases hg
    obtain ⟨q, xs, rfl, g1, g2⟩ := rp_tup r
    cases g2 with
    | cons r1 g3 =>
      cases g3 with
      | cons r2 g4 =>
        cases g4
        obtain ⟨w1, m1, f1, eH1, eG1⟩ := bind_fr m (fun p hq (z : p.1 = i) => hp (z ▸ hpi p hq)) r1
        obtain ⟨w2, m2, f2, eH2, _⟩ := bind_fr m1 (fun p hq' (z : p.1 = j) => hq (z ▸ hpi p hq')) (by rw [eG1]; exact r2)
        refine ⟨q, _, rfl, .of (m.sub _ _ g1), rfl, _, _, rfl, _, _, rfl, rfl, ?_⟩
        rw [← eH1, ← eH2]
        exact h _ w2 m2 (f1.trans f2) (eH2.trans eH1)
  · cases hg
theorem vg_t3 (V0 : X.N.Nodup) (hc : X.calm = true) (i j k : Nat) {x y z : Str} {px py pz : Pos} {kk} (hi : X.N[i]? = some x := by rfl) (hj : X.N[j]? = some y := by rfl) (hk : X.N[k]? = some z := by rfl) (hx : Loc X.env.scope x := by first | exact Or.inl rfl | exact Or.inr rfl) (hy : Loc X.env.scope y := by first | exact Or.inl rfl | exact Or.inr rfl)
    (hz : Loc X.env.scope z := by first | exact Or.inl rfl | exact Or.inr rfl)
    (hp : i ∉ pn := by decide) (hq : j ∉ pn := by decide) (hr : k ∉ pn := by decide)
    (hf : X.fn x = true ∨ X.env.scope.names.lookup x = some .local := by first | exact .inl rfl | exact .inr rfl) (hf2 : X.fn y = true ∨ X.env.scope.names.lookup y = some .local := by first | exact .inl rfl | exact .inr rfl) (hf3 : X.fn z = true ∨ X.env.scope.names.lookup z = some .local := by first | exact .inl rfl | exact .inr rfl)
    (hn : (assignEach [.Name x px, .Name y py, .Name z pz] X.env).length = 3 := by rfl) (hst : (assignEach [.Name x px, .Name y py, .Name z pz] X.env).findIdx? (·.1) = none := by rfl)
    (hs1 : (assignEach (.Name x px :: [.Name y py, .Name z pz]) X.env).map (·.2) = assign (.Name x px) X.env :: (assignEach [.Name y py, .Name z pz] X.env).map (·.2) := by rfl)
    (hs2 : (assignEach (.Name y py :: [.Name z pz]) X.env).map (·.2) = assign (.Name y py) X.env :: (assignEach [.Name z pz] X.env).map (·.2) := by rfl)
    (hs3 : (assignEach (.Name z pz :: []) X.env).map (·.2) = assign (.Name z pz) X.env :: (assignEach [] X.env).map (·.2) := by rfl) : VG X ρ pn (.Tuple [.Name x px, .Name y py, .Name z pz] kk pos) (gT3 i j k) := by
  refine ⟨_, pg_tup hc (pgs_cons (pg_name V0 hi hx hf) (pgs_cons (pg_name V0 hj hy hf2) (pgs_cons (pg_name V0 hk hz hf3) pgs_nil hs3) hs2) hs1) hn hst, fun π e σ w d v e' Q hpi m r hg h => ?_⟩
  unfold gT3 at hg
  split at hg
  · cases hg
    obtain ⟨q, xs, rfl, g1, g2⟩ := rp_tup r
    cases g2 with
    | cons r1 g3 =>
      cases g3 with
      | cons r2 g4 =>
        cases g4 with
        | cons r3 g5 =>
          cases g5
          obtain ⟨w1, m1, f1, eH1, eG1⟩ := bind_fr m (fun p hq (z : p.1 = i) => hp (z ▸ hpi p hq)) r1
          obtain ⟨w2, m2, f2, eH2, eG2⟩ := bind_fr m1 (fun p hq' (z : p.1 = j) => hq (z ▸ hpi p hq')) (by rw [eG1]; exact r2)
          obtain ⟨w3, m3, f3, eH3, _⟩ := bind_fr m2 (fun p hq' (z : p.1 = k) => hr (z ▸ hpi p hq')) (by rw [eG2, eG1]; exact r3)
          refine ⟨q, _, rfl, .of (m.sub _ _ g1), rfl, _, _, rfl, _, _, rfl, _, _, rfl, rfl, ?_⟩
          rw [← eH1, ← eH2, ← eH3]
          exact h _ w3 m3 ((f1.trans f2).trans f3) (eH3.trans (eH2.trans eH1))
  · cases hg
/-! ### for -/
theorem forget_post {C : Cc} {π : List (Nat × V)} {e : Env} {σ : St} {w w0 : WS} {vs : List Nat} {D : St → Hp → Prop} (m : Mt C π e σ w) (f : Frm w0 w) (h : ∀ σ' w', Mt C π (forget vs e) σ' w' → Frm w0 w' → D σ' w'.H) : D σ w.H := by
  obtain ⟨w', m', f', eH, _⟩ := m.forget (vs := vs)
  rw [← eH]
  exact h σ w' m' (f.trans f')
theorem ss_for {C : Cc} {wi : TI} {t : TG} {tb : TS} (dead : List Nat) (si : SI C W wi fi) (sg : SG C pn t ft) (sb : SS C W pn tb f) : SS C W pn (tFor wi t tb) (sFor fi ft f dead) := fun π e σ w D hp m h => by
  refine si π e σ w _ m (h.bnd fun ds e1 J w1 m1 f1 k1 h1 => ?_)
  have h2 := h1.from f1
  refine ⟨fun i n σ' H' => n = ds.length - i ∧ i ≤ ds.length ∧ ∃ e' w', w'.H = H' ∧ Mt C π e' σ' w' ∧ Same w1.G w'.G ∧ PostS C W π w' (sForL ft f dead (ds.drop i) e') D, ⟨ds.length, by simp, Nat.zero_le _, e1, w1, rfl, m1, Same.refl _, by rw [List.drop_zero]; exact h2⟩, ?_⟩
  rintro i n σ' H' ⟨rfl, hi, e', w', rfl, m', sG, h3⟩
  obtain ⟨go, stop, yld⟩ := k1 i π e' σ' w' m' sG
  by_cases hlt : i < ds.length
  · refine .inr ⟨go hlt, fun σ2 H2 => i + 1 ≤ ds.length ∧ ∃ e2 w2, w2.H = H2 ∧ Mt C π e2 σ2 w2 ∧ Same w1.G w2.G ∧ PostS C W π w2 (sForL ft f dead (ds.drop (i + 1)) e2) D, fun σ2 H2 q => ⟨ds.length - (i + 1), by omega, rfl, q⟩, fun x H2 y => ?_⟩
    obtain ⟨w2, m2, f2, eH2, r2⟩ := yld x H2 y ds[i] (List.getElem?_eq_getElem hlt)
    subst eH2
    rw [List.drop_eq_getElem_cons hlt] at h3
    have h4 := h3.from f2
    unfold sForL at h4
    cases q : ft ds[i] e' with
    | none => rw [q] at h4; exact h4.elim
    | some e3 =>
      rw [q] at h4
      simp only at h4
      refine sg π e' σ' w2 ds[i] x e3 _ hp m2 r2 q fun σ3 w3 m3 f3 _ => ?_
      have h5 := h4.from f3
      refine sb π e3 σ3 w3 _ hp m3 ?_
      have sG3 : Same w1.G w3.G := (sG.trans f2.g).trans f3.g
      have again : ∀ {σ4 w4 e4}, Mt C π e4 σ4 w4 → Frm w3 w4 → PostS C W π w3 (sForL ft f dead (ds.drop (i + 1)) (forget dead e4)) D →
          i + 1 ≤ ds.length ∧ ∃ e2 w2, w2.H = w4.H ∧ Mt C π e2 σ4 w2 ∧ Same w1.G w2.G ∧ PostS C W π w2 (sForL ft f dead (ds.drop (i + 1)) e2) D := fun {σ4 w4 e4} m4 f4 h6 => by
        obtain ⟨w5, m5, f5, eH5, eG5, _⟩ := m4.forget (vs := dead)
        exact ⟨hlt, _, w5, eH5, m5, (sG3.trans f4.g).trans f5.g, h6.from (f4.trans f5)⟩
      cases q2 : f e3 with
      | none => rw [q2] at h5; exact h5.elim
      | some x =>
        rw [q2] at h5
        cases x with
        | nx e4 => exact fun σ4 w4 m4 f4 => again m4 f4 h5
        | ct e4 => exact fun σ4 w4 m4 f4 => again m4 f4 h5
        | bk e4 => exact fun σ4 w4 m4 f4 => forget_post m4 f4 h5
        | rt b e4 => exact h5
        | ex c e4 => exact h5
  · have e2 : i = ds.length := by omega
    subst e2
    rw [List.drop_length] at h3
    exact .inl ⟨stop (Nat.le_refl _), forget_post m' (.refl _) h3⟩
theorem vs_for (V0 : Vx X W) (dead : List Nat) {body : List Stmt} (hi : VI X ρ W tg iter fi) (hg : VG X ρ pn tg ft) (hb : VSs X ρ W pn body f) (hs : ∀ x, foldedSetIterable iter X.env x = pure x := by intro _; rfl) : VS X ρ W pn (.For tg iter body [] pos) (sFor fi ft f dead) := by
  obtain ⟨wi, pi, si⟩ := hi
  obtain ⟨t, pg, sg⟩ := hg
  obtain ⟨tb, pb, sb⟩ := hb
  exact ⟨_, ps_for V0.po V0.calm pi pg pb hs, ss_for dead si sg sb⟩
theorem vs_while (V0 : Vx X W) (dead : List Nat) (n : Nat) {body : List Stmt} (hc : VT X ρ W a ta) (hb : VSs X ρ W pn body f) : VS X ρ W pn (.While a body [] pos) (sWhile ta f dead n) := by
  obtain ⟨t, p, s⟩ := hc
  obtain ⟨tb, pb, sb⟩ := hb
  refine ⟨_, ps_while V0.po p pb, fun π e σ w D hp m h => ?_⟩
  refine ⟨fun n σ' H' => ∃ e' w', w'.H = H' ∧ Mt (cc X ρ) π e' σ' w' ∧ PostS (cc X ρ) W π w' (sWhile ta f dead n e') D, ⟨n, e, w, rfl, m, h⟩, ?_⟩
  rintro n σ' H' ⟨e', w', rfl, m', h3⟩
  cases n with
  | zero => exact h3.elim
  | succ n =>
    refine s π e' σ' w' _ m' (PostS.bnd (rel := fun _ b b' => b = b') h3 fun o1 e1 v1 w1 m1 f1 k1 h1 => ?_)
    subst k1
    have h4 := h1.from f1
    cases o1 with
    | false => rw [if_neg Bool.false_ne_true]; exact h4 σ' w1 m1 (.refl _)
    | true =>
      rw [if_pos rfl]
      simp only at h4
      refine ⟨fun σ2 H2 => ∃ e2 w2, w2.H = H2 ∧ Mt (cc X ρ) π e2 σ2 w2 ∧ PostS (cc X ρ) W π w2 (sWhile ta f dead n e2) D, fun σ2 H2 q => ⟨n, Nat.lt_succ_self n, q⟩, ?_⟩
      refine sb π e1 σ' w1 _ hp m1 ?_
      have again : ∀ {σ4 w4 e4}, Mt (cc X ρ) π e4 σ4 w4 → Frm w1 w4 → PostS (cc X ρ) W π w1 (sWhile ta f dead n (forget dead e4)) D →
          ∃ e2 w2, w2.H = w4.H ∧ Mt (cc X ρ) π e2 σ4 w2 ∧ PostS (cc X ρ) W π w2 (sWhile ta f dead n e2) D := fun {σ4 w4 e4} m4 f4 h6 => by
        obtain ⟨w5, m5, f5, eH5, eG5, _⟩ := m4.forget (vs := dead)
        exact ⟨_, w5, eH5, m5, h6.from (f4.trans f5)⟩
      cases q2 : f e1 with
      | none => rw [q2] at h4; exact h4.elim
      | some x =>
        rw [q2] at h4
        cases x with
        | nx e4 => exact fun σ4 w4 m4 f4 => again m4 f4 h4
        | ct e4 => exact fun σ4 w4 m4 f4 => again m4 f4 h4
        | bk e4 => exact fun σ4 w4 m4 f4 => forget_post m4 f4 h4
        | rt b e4 => exact h4
        | ex c e4 => exact h4
/-! ### comprehensions -/
abbrev W0 : WX := fun _ _ _ _ => False
/-- the tests of a comprehension -/
def VC (X : Cx) (ρ : Nat → Res) (ifs : List Expr) (f : FT) : Prop := ∃ t, PTs X ifs t ∧ ST (cc X ρ) W0 t f
theorem vc_no : VC X ρ [] tTrue := ⟨_, pts_nil, fun π e σ w Q m h => h true w m (.refl w) rfl⟩
theorem vc_if (h : VT X ρ W0 a ta) : VC X ρ [a] ta := by
  obtain ⟨t, p, s⟩ := h
  exact ⟨_, pts_one p, s⟩
theorem wipe_get {σ : St} {i : Nat} : ∀ {vs : List Nat}, i ∉ vs → (wipe σ vs)[i]? = σ[i]?
  | [], _ => rfl
  | v :: vs, h => by
    simp only [List.mem_cons, not_or] at h
    show ((wipe σ vs).set v none)[i]? = σ[i]?
    rw [List.getElem?_set_ne (Ne.symm h.1)]
    exact wipe_get h.2
theorem forget_none : ∀ {vs : List Nat} {e : Env} {i : Nat}, i ∈ vs → at? (forget vs e) i = none := fun {vs e i} h => by
  cases q : at? (forget vs e) i with
  | none => rfl
  | some b => exact absurd h (at_forget q).2
/-- into the comprehension's own frame, and out of it -/
theorem Mt.wipe {C : Cc} {π : List (Nat × V)} {e : Env} {σ : St} {w : WS} {vs : List Nat} (m : Mt C π e σ w) (hv : ∀ i b, at? e i = some b → i ∉ vs) : Mt C [] e (L2.wipe σ vs) w :=
  ⟨by rw [wipe_length]; exact m.len, m.sub, fun i b q => by
    obtain ⟨v, h1, h2⟩ := m.bok i b q
    exact ⟨v, by rw [wipe_get (hv i b q)]; exact h1, h2⟩, m.non, m.dis, fun p h => by cases h⟩
theorem Mt.unwipe {C : Cc} {π : List (Nat × V)} {e : Env} {σ σ' : St} {w : WS} {vs : List Nat} (m : Mt C [] e σ' w) (hw : L2.wipe σ' vs = L2.wipe σ vs) (hl : σ'.length = σ.length) (hv : ∀ i b, at? e i = some b → i ∉ vs) (hp : ∀ p ∈ π, σ[p.1]? = some (some p.2)) : Mt C π e σ w :=
  ⟨m.len.trans hl, m.sub, fun i b q => by
    obtain ⟨v, h1, h2⟩ := m.bok i b q
    refine ⟨v, ?_, h2⟩
    have hi := hv i b q
    have e1 : (L2.wipe σ' vs)[i]? = (L2.wipe σ vs)[i]? := by rw [hw]
    rw [wipe_get hi, wipe_get hi] at e1
    rw [← e1]
    exact h1, m.non, m.dis, hp⟩
theorem post_w0 {α β : Type} {C : Cc} {π : List (Nat × V)} {σ : St} {w : WS} {r : Option (Out α)} {rel : WS → α → β → Prop} {Q : β → Hp → Prop} (h : ∃ a e, r = some (.ok a e) ∧ ∀ b w', Mt C π e σ w' → Frm w w' → rel w' a b → Q b w'.H) : Post C W0 π σ w r rel Q := by
  obtain ⟨a, e, rfl, h⟩ := h
  exact h
/-- the wiped slots may change alone -/
def WipeG (t : TG) (vs : List Nat) : Prop := ∀ x σ τ H (Q : St → Hp → Prop), L2.wipe σ vs = τ → t x σ H (fun σ' H' => L2.wipe σ' vs = τ → σ'.length = σ.length → Q σ' H') → t x σ H fun σ' H' => L2.wipe σ' vs = τ ∧ Q σ' H'
theorem wipe_set {σ : St} {i : Nat} {x : Option V} : ∀ {vs : List Nat}, i ∈ vs → L2.wipe (σ.set i x) vs = L2.wipe σ vs
  | v :: vs, h => by
    show (L2.wipe (σ.set i x) vs).set v none = (L2.wipe σ vs).set v none
    by_cases hi : i ∈ vs
    · rw [wipe_set hi]
    · have hv : i = v := by
        rcases List.mem_cons.mp h with e | e
        · exact e
        · exact absurd e hi
      subst hv
      apply List.ext_getElem?
      intro k
      by_cases hk : k = i
      · subst hk
        by_cases hl : k < σ.length
        · rw [List.getElem?_set_self (by rw [wipe_length, List.length_set]; exact hl), List.getElem?_set_self (by rw [wipe_length]; exact hl)]
        · rw [List.getElem?_eq_none (by rw [List.length_set, wipe_length, List.length_set]; omega), List.getElem?_eq_none (by rw [List.length_set, wipe_length]; omega)]
      · rw [List.getElem?_set_ne (Ne.symm hk), List.getElem?_set_ne (Ne.symm hk)]
        have go : ∀ us : List Nat, (L2.wipe (σ.set i x) us)[k]? = (L2.wipe σ us)[k]? := by
          intro us
          induction us with
          | nil => exact List.getElem?_set_ne (Ne.symm hk)
          | cons u us ih =>
            show ((L2.wipe (σ.set i x) us).set u none)[k]? = ((L2.wipe σ us).set u none)[k]?
            by_cases hu : u = k
            · subst hu
              by_cases hl : u < σ.length
              · rw [List.getElem?_set_self (by rw [wipe_length, List.length_set]; exact hl), List.getElem?_set_self (by rw [wipe_length]; exact hl)]
              · rw [List.getElem?_eq_none (by rw [List.length_set, wipe_length, List.length_set]; omega), List.getElem?_eq_none (by rw [List.length_set, wipe_length]; omega)]
            · rw [List.getElem?_set_ne hu, List.getElem?_set_ne hu]
              exact ih
        exact go vs
theorem wipe_wipe {σ : St} {vs : List Nat} : L2.wipe (L2.wipe σ vs) vs = L2.wipe σ vs := by
  have go : ∀ us : List Nat, (∀ u ∈ us, u ∈ vs) → L2.wipe (L2.wipe σ vs) us = L2.wipe σ vs := by
    intro us
    induction us with
    | nil => intro _; rfl
    | cons u us ih =>
      intro hu
      show (L2.wipe (L2.wipe σ vs) us).set u none = L2.wipe σ vs
      rw [ih fun v hv => hu v (List.mem_cons_of_mem _ hv)]
      apply List.ext_getElem?
      intro k
      by_cases hk : u = k
      · subst hk
        by_cases hl : u < σ.length
        · rw [List.getElem?_set_self (by rw [wipe_length]; exact hl)]
          cases q : (L2.wipe σ vs)[u]? with
          | none =>
            rw [List.getElem?_eq_none_iff, wipe_length] at q
            omega
          | some z =>
            cases z with
            | none => rfl
            | some z => exact absurd (hu u List.mem_cons_self) (wipe_some q).2
        · rw [List.getElem?_eq_none (by rw [List.length_set, wipe_length]; omega), List.getElem?_eq_none (by rw [wipe_length]; omega)]
      · rw [List.getElem?_set_ne hk]
  exact go vs fun _ h => h
theorem wg_name {i : Nat} {vs : List Nat} (h : i ∈ vs) : WipeG (gName i) vs := fun x σ τ H Q e q => ⟨(wipe_set h).trans e, q ((wipe_set h).trans e) List.length_set⟩
theorem wg_t2 {K : PySem.W.Frag} {n i j : Nat} {vs : List Nat} (h : i ∈ vs) (h2 : j ∈ vs) : WipeG (gTup K n (gCons (gName i) (gCons (gName j) gNil))) vs := fun x σ τ H Q e q => by
  obtain ⟨a, xs, e1, h1, hl, v, r, e2, v', r', e3, e4, q⟩ := q
  exact ⟨a, xs, e1, h1, hl, v, r, e2, v', r', e3, e4, ((wipe_set h2).trans (wipe_set h)).trans e, q (((wipe_set h2).trans (wipe_set h)).trans e) (by rw [List.length_set, List.length_set])⟩
theorem se_lc {C : Cc} {wi : TI} {t : TG} {tt : TT} {te : TE} {vs : List Nat} (si : SI C W wi fi) (sg : SG C [] t ft) (wg : WipeG t vs) (st : ST C W0 tt ta) (sf : SE C W0 te fa) : SE C W (tLc wi t tt te vs) (fLc fi ft ta fa vs) := fun π e σ w Q m h => by
  refine si π e σ w _ m (h.bnd fun ds e1 J w1 m1 f1 k1 h1 => ?_)
  intro D hD
  obtain ⟨wf, mf, ff, eHf, eGf, hlf⟩ := m1.forget (vs := vs)
  have hDf : wf.H D = none := by rw [eHf]; exact hD
  have hDw : w.H D = none := f1.t D hD
  have hG1 : wf.G D = none := mf.sub.free hDf
  have m2 := mf.new (o := .lst []) hDf
  have f2 := Frm.new (o := .lst []) hDf
  have hno : ∀ i, ¬ (wf.new D (.lst [])).fp i D := fun i => mf.notOwned hDf i
  have mw : Mt C [] (forget vs e1) (L2.wipe σ vs) (wf.new D (.lst [])) := m2.wipe fun i b q => (at_forget q).2
  -- the invariant
  refine ⟨fun i n H' => n = ds.length - i ∧ i ≤ ds.length ∧ ∃ e' w' acc xs, w'.H = H' ∧ Mt C [] e' (L2.wipe σ vs) w' ∧ (∀ j b, at? e' j = some b → j ∉ vs) ∧ Frm w1 w' ∧ Same w1.G w'.G ∧ w'.H D = some (.lst xs) ∧ w'.G D = none ∧ (∀ j, ¬ w'.fp j D) ∧ RpAll C.K w'.G xs acc ∧
      Post C W π σ w (fLcL ft ta fa vs (ds.drop i) acc e') (OOk C σ w) Q,
    ⟨ds.length, by simp, Nat.zero_le _, forget vs e1, wf.new D (.lst []), [], [], by rw [show (wf.new D (.lst [])).H = upd wf.H D (.lst []) from rfl, eHf], mw, fun j b q => (at_forget q).2, ff.trans f2, (ff.trans f2).g, upd_same, hG1, hno, .nil, by rw [List.drop_zero]; exact h1⟩, ?_⟩
  rintro i n H' ⟨rfl, hi, e', w', acc, xs, rfl, m', hv', fr', sG, hDx, hGD, hnD, rA, h3⟩
  obtain ⟨go, stop, yld⟩ := k1 i [] e' _ w' m' sG
  have frw : Frm w w' := f1.trans fr'
  by_cases hlt : i < ds.length
  · refine .inr ⟨go hlt, fun H2 => i + 1 ≤ ds.length ∧ ∃ e' w' acc xs, w'.H = H2 ∧ Mt C [] e' (L2.wipe σ vs) w' ∧ (∀ j b, at? e' j = some b → j ∉ vs) ∧ Frm w1 w' ∧ Same w1.G w'.G ∧ w'.H D = some (.lst xs) ∧ w'.G D = none ∧ (∀ j, ¬ w'.fp j D) ∧ RpAll C.K w'.G xs acc ∧
      Post C W π σ w (fLcL ft ta fa vs (ds.drop (i + 1)) acc e') (OOk C σ w) Q, fun H2 q => ⟨ds.length - (i + 1), by omega, rfl, q⟩, fun x H2 y => ?_⟩
    obtain ⟨w2, m2, f2, eH2, r2⟩ := yld x H2 y ds[i] (List.getElem?_eq_getElem hlt)
    subst eH2
    rw [List.drop_eq_getElem_cons hlt] at h3
    unfold fLcL at h3
    cases q : ft ds[i] e' with
    | none => rw [q] at h3; exact h3.elim
    | some e3 =>
      rw [q] at h3
      simp only at h3
      -- the target
      have ww := wipe_wipe (σ := σ) (vs := vs)
      -- the rest of the turn, for whatever slots
      have turn : ∀ σ3 w3, L2.wipe σ3 vs = L2.wipe σ vs → σ3.length = σ.length → Mt C [] e3 σ3 w3 → Frm w2 w3 → tt σ3 w3.H fun b H3 => if b = true then te σ3 H3 fun y H4 => ∃ acc, H4 D = some (.lst acc) ∧ acc.length < sizeLine ∧
          (i + 1 ≤ ds.length ∧ ∃ e' w' acc_1 xs, w'.H = upd H4 D (.lst (acc ++ [y])) ∧ Mt C [] e' (L2.wipe σ vs) w' ∧ (∀ j b, at? e' j = some b → j ∉ vs) ∧ Frm w1 w' ∧ Same w1.G w'.G ∧ w'.H D = some (.lst xs) ∧ w'.G D = none ∧ (∀ j, ¬ w'.fp j D) ∧ RpAll C.K w'.G xs acc_1 ∧ Post C W π σ w (fLcL ft ta fa vs (ds.drop (i + 1)) acc_1 e') (OOk C σ w) Q)
          else (i + 1 ≤ ds.length ∧ ∃ e' w' acc_1 xs, w'.H = H3 ∧ Mt C [] e' (L2.wipe σ vs) w' ∧ (∀ j b, at? e' j = some b → j ∉ vs) ∧ Frm w1 w' ∧ Same w1.G w'.G ∧ w'.H D = some (.lst xs) ∧ w'.G D = none ∧ (∀ j, ¬ w'.fp j D) ∧ RpAll C.K w'.G xs acc_1 ∧ Post C W π σ w (fLcL ft ta fa vs (ds.drop (i + 1)) acc_1 e') (OOk C σ w) Q) := by
        intro σ3 w3 hw3 hl3 m3 f3
        have fD : ∀ {w4}, Frm w' w4 → w4.H D = some (.lst xs) ∧ w4.G D = none ∧ ∀ j, ¬ w4.fp j D := fun {w4} f => by
          obtain ⟨g1, g2, g3⟩ := f.k D _ hDx hnD
          exact ⟨g1, g2.trans hGD, g3⟩
        refine st [] e3 σ3 w3 _ m3 ?_
        cases qt : ta e3 with
        | none => rw [qt] at h3; exact h3.elim
        | some ot =>
          rw [qt] at h3
          cases ot with
          | ex c e => exact h3.elim
          | ok bt e4 =>
            intro b w4 m4 f4 eb
            subst eb
            have f24 : Frm w' w4 := (f2.trans f3).trans f4
            cases bt with
            | false =>
              rw [if_neg Bool.false_ne_true]
              simp only at h3
              obtain ⟨w5, m5, f5, eH5, eG5, _⟩ := m4.forget (vs := vs)
              have f25 := f24.trans f5
              obtain ⟨g1, g2, g3⟩ := fD f25
              refine ⟨hlt, _, w5, acc, xs, eH5, (m5.unwipe (π := []) (vs := vs) (by rw [ww]; exact hw3) (by rw [wipe_length]; exact hl3) (fun j b q => (at_forget q).2) (fun p h => by cases h)), fun j b q => (at_forget q).2, fr'.trans f25, sG.trans f25.g, g1, g2, g3, rA.mono f25.g, h3⟩
            | true =>
              rw [if_pos rfl]
              simp only at h3
              refine sf [] e4 σ3 w4 _ m4 ?_
              cases qf : fa e4 with
              | none => rw [qf] at h3; exact h3.elim
              | some of_ =>
                rw [qf] at h3
                cases of_ with
                | ex c e => exact h3.elim
                | ok o e5 =>
                  intro yv w5 m5 f5 k5
                  simp only at h3
                  cases qz : fz e5 o with
                  | none => rw [qz] at h3; exact h3.elim
                  | some pz =>
                    rw [qz] at h3
                    obtain ⟨dz, ez⟩ := pz
                    simp only at h3
                    obtain ⟨w6, m6, f6, eH6, r6⟩ := fz_sound m5 f5 k5 qz
                    split at h3
                    case isFalse => exact h3.elim
                    case isTrue hbig =>
                      have f26 : Frm w' w6 := f24.trans f6
                      obtain ⟨g1, g2, g3⟩ := fD f26
                      have hlen := rA.length
                      refine ⟨xs, by rw [← eH6]; exact g1, by rw [hlen]; exact Nat.lt_of_lt_of_le hbig big_le, hlt, ?_⟩
                      -- D grows
                      obtain ⟨w7, m7, f7, eH7, eG7, hl7⟩ := m6.forget (vs := vs)
                      have f27 := f26.trans f7
                      obtain ⟨a1, a2, a3⟩ := fD f27
                      have m8 : Mt C [] (forget vs ez) (L2.wipe σ vs) { w7 with H := upd w7.H D (.lst (xs ++ [yv])) } := by
                        have m7' := m7.unwipe (σ := L2.wipe σ vs) (π := []) (vs := vs) (by rw [ww]; exact hw3) (by rw [wipe_length]; exact hl3) (fun j b q => (at_forget q).2) (fun p h => by cases h)
                        refine ⟨m7'.len, fun a u qa => ?_, fun j b qb => ?_, m7'.non, m7'.dis, m7'.pin⟩
                        · show upd w7.H D (.lst (xs ++ [yv])) a = some u
                          rw [upd_ne (ne_of_none qa a2)]
                          exact m7'.sub a u qa
                        · obtain ⟨v, b1, b2⟩ := m7'.bok j b qb
                          refine ⟨v, b1, b2.mono (Same.refl _) fun a ha => ⟨upd_ne fun z => a3 j (by rw [← z]; exact ha), rfl⟩⟩
                      refine ⟨_, _, acc ++ [dz], xs ++ [yv], by show upd w7.H D _ = _; rw [eH7, eH6], m8, fun j b q => (at_forget q).2, ⟨(fr'.trans f27).g, fun a o ha hna => ?_, fun a ha => ?_⟩, sG.trans f27.g, upd_same, a2, a3, (rA.mono f27.g).append (.cons (r6.mono f7.g) .nil), h3⟩
                      · obtain ⟨b1, b2, b3⟩ := (fr'.trans f27).k a o ha hna
                        refine ⟨?_, b2, b3⟩
                        show upd w7.H D _ a = some o
                        rw [upd_ne (ne_of_none ha hD)]
                        exact b1
                      · by_cases z : a = D
                        · rw [z]; exact hD
                        · have ha' : upd w7.H D (.lst (xs ++ [yv])) a = none := ha
                          rw [upd_ne z] at ha'
                          exact (fr'.trans f27).t a ha'
      exact wg x _ _ _ _ ww (sg [] e' _ w2 ds[i] x e3 _ (fun p h => by cases h) m2 r2 q fun σ3 w3 m3 f3 _ hw hl => turn σ3 w3 hw (hl.trans (wipe_length σ vs)) m3 f3)
  · have e2 : i = ds.length := by omega
    subst e2
    rw [List.drop_length] at h3
    refine .inl ⟨stop (Nat.le_refl _), ?_⟩
    have mu : Mt C π e' σ w' := m'.unwipe (σ := σ) (vs := vs) wipe_wipe (wipe_length σ vs) hv' m.pin
    exact h3 (.ref D) w' mu frw ⟨fun a => a = D, ⟨D, xs, rfl, hGD, hDx, rA, fun _ => Iff.rfl⟩, fun a ha => by subst ha; exact ⟨.inl hDw, hnD⟩⟩
end
end VL

set_option maxRecDepth 100000
/-! VL7: comprehensions as expressions, defs, calls, raise. -/
namespace VL
open PySem L2
section
variable {X : Cx} {ρ : Nat → Res} {W : WX} {pn : List Nat} {st : Stmt} {rest : List Stmt} {a b c tg iter elt : Expr} {es ifs : List Expr} {pos p : Pos} {fa fb fc : FE} {ta tb tc : FT} {f g : FS} {fi : FI} {ft : FG} {as_ : FA}
theorem Vx.blk (V0 : Vx X W) (s : Shared) (H : Hp) (scope : Scope) (cenv : PySem.Env) (fp : List Addr) : Vx (X.blk s H scope cenv fp) W0 := ⟨V0.calm, V0.room, V0.nd, takes0, PassesOwn.never⟩
theorem pe_less {t t' : TE} (h : PE X a t) (k : ∀ σ H Q, t' σ H Q → t σ H Q) : PE X a t' := ⟨fun pins s σ H Q I q => h.run pins s σ H Q I (k σ H Q q)⟩
theorem pts_less {t t' : TT} (h : PTs X ifs t) (k : ∀ σ H Q, t' σ H Q → t σ H Q) : PTs X ifs t' := ⟨fun pins s σ H Q I q => h.run pins s σ H Q I (k σ H Q q)⟩
/-- the parts of a comprehension, the same readings whatever frame it gets -/
theorem lc_parts {scope : Scope} (V0 : Vx X W)
    (ht : ∀ (s : Shared) (H : Hp) (C : Addr) (cl : List (Str × Addr)) (fp : List Addr), Vx (X.blk s H scope (compEnvC scope cl C X.env) fp) W0 → VC (X.blk s H scope (compEnvC scope cl C X.env) fp) ρ ifs ta)
    (he : ∀ (s : Shared) (H : Hp) (C : Addr) (cl : List (Str × Addr)) (fp : List Addr), Vx (X.blk s H scope (compEnvC scope cl C X.env) fp) W0 → VE (X.blk s H scope (compEnvC scope cl C X.env) fp) ρ W0 elt fa) :
    ∃ (tt : TT) (te : TE), (∀ (s : Shared) (H : Hp) (C : Addr) (cl : List (Str × Addr)) (fp : List Addr), PTs (X.blk s H scope (compEnvC scope cl C X.env) fp) ifs tt) ∧ (∀ (s : Shared) (H : Hp) (C : Addr) (cl : List (Str × Addr)) (fp : List Addr), PE (X.blk s H scope (compEnvC scope cl C X.env) fp) elt te) ∧
      ST (cc X ρ) W0 tt ta ∧ SE (cc X ρ) W0 te fa := by
  have h1 := fun s H C cl fp => ht s H C cl fp (V0.blk s H scope _ fp)
  have h2 := fun s H C cl fp => he s H C cl fp (V0.blk s H scope _ fp)
  refine ⟨fun σ H' Q => ∀ s H C cl fp, (h1 s H C cl fp).choose σ H' Q, fun σ H' Q => ∀ s H C cl fp, (h2 s H C cl fp).choose σ H' Q, fun s H C cl fp => ?_, fun s H C cl fp => ?_, ?_, ?_⟩
  · exact pts_less (h1 s H C cl fp).choose_spec.1 fun σ H' Q q => q s H C cl fp
  · exact pe_less (h2 s H C cl fp).choose_spec.1 fun σ H' Q q => q s H C cl fp
  · intro π e σ w Q m h s H C cl fp
    exact (h1 s H C cl fp).choose_spec.2 π e σ w Q m h
  · intro π e σ w Q m h s H C cl fp
    exact (h2 s H C cl fp).choose_spec.2 π e σ w Q m h
theorem ve_lc {scope : Scope} (V0 : Vx X W) (own : List (Str × Nat)) {t : TG} (hi : VI X ρ W tg iter fi) (ok : blkC X.N X.env.scope scope own = true)
    (hg : ∀ (s : Shared) (H : Hp) (C : Addr) (cl : List (Str × Addr)) (fp : List Addr), PG (X.blk s H scope (compEnvC scope cl C X.env) fp) tg t) (sg : SG (cc X ρ) [] t ft) (wg : WipeG t (own.map (·.2)))
    (ht : ∀ (s : Shared) (H : Hp) (C : Addr) (cl : List (Str × Addr)) (fp : List Addr), Vx (X.blk s H scope (compEnvC scope cl C X.env) fp) W0 → VC (X.blk s H scope (compEnvC scope cl C X.env) fp) ρ ifs ta)
    (he : ∀ (s : Shared) (H : Hp) (C : Addr) (cl : List (Str × Addr)) (fp : List Addr), Vx (X.blk s H scope (compEnvC scope cl C X.env) fp) W0 → VE (X.blk s H scope (compEnvC scope cl C X.env) fp) ρ W0 elt fa) (hs : ∀ x, foldedSetIterable iter X.env x = pure x := by intro _; rfl) :
    VE X ρ W (.ListComp elt [⟨tg, iter, ifs, 0⟩] scope pos) (fLc fi ft ta fa (own.map (·.2))) := by
  obtain ⟨wi, pi, si⟩ := hi
  obtain ⟨tt, te, p1, p2, s1, s2⟩ := lc_parts V0 ht he
  exact ⟨_, pe_lc V0.calm V0.nd pi (blkOk_by ok) hg p1 p2 hs, se_lc si sg wg s1 s2⟩
/-- name = [..], the name a local -/
theorem vs_asgLc {scope : Scope} {y : Str} {py spos : Pos} {t : TG} (V0 : Vx X W) (i : Nat) (own : List (Str × Nat)) (hi : VI X ρ W tg iter fi) (ok : blkC X.N X.env.scope scope own = true)
    (hg : ∀ (s : Shared) (H : Hp) (C : Addr) (cl : List (Str × Addr)) (fp : List Addr), PG (X.blk s H scope (compEnvC scope cl C X.env) fp) tg t) (sg : SG (cc X ρ) [] t ft) (wg : WipeG t (own.map (·.2)))
    (ht : ∀ (s : Shared) (H : Hp) (C : Addr) (cl : List (Str × Addr)) (fp : List Addr), Vx (X.blk s H scope (compEnvC scope cl C X.env) fp) W0 → VC (X.blk s H scope (compEnvC scope cl C X.env) fp) ρ ifs ta)
    (he : ∀ (s : Shared) (H : Hp) (C : Addr) (cl : List (Str × Addr)) (fp : List Addr), Vx (X.blk s H scope (compEnvC scope cl C X.env) fp) W0 → VE (X.blk s H scope (compEnvC scope cl C X.env) fp) ρ W0 elt fa)
    (hsw : swapsWith (.ListComp elt [⟨tg, iter, ifs, 0⟩] scope pos) (some (.Name y py)) spos.line X.env = pure true) (hy : X.N[i]? = some y := by rfl) (hyl : X.env.scope.names.lookup y = some .local := by rfl) (hp : i ∉ pn := by decide)
    (hs : ∀ x, foldedSetIterable iter X.env x = pure x := by intro _; rfl) :
    VS X ρ W pn (.Assign [.Name y py] (.ListComp elt [⟨tg, iter, ifs, 0⟩] scope pos) spos) (sAsg i (fLc fi ft ta fa (own.map (·.2)))) ∧
    VS X ρ W pn (.Assign [.Name y py] (.ListComp elt [⟨tg, iter, ifs, 0⟩] scope pos) spos) (sOwn i (fLc fi ft ta fa (own.map (·.2)))) := by
  obtain ⟨wi, pi, si⟩ := hi
  obtain ⟨tt, te, p1, p2, s1, s2⟩ := lc_parts V0 ht he
  have q := ps_setLc V0.calm V0.nd hy hyl hsw pi (blkOk_by ok) hg p1 p2 hs
  exact ⟨⟨_, q, ss_asg hp (se_lc si sg wg s1 s2)⟩, ⟨_, q, ss_own hp (se_lc si sg wg s1 s2)⟩⟩
/-! ### raise -/
/-- an own class of error, without methods, over ValueError -/
structure XC (K : PySem.W.Frag) (mg : Str → Option Value) (c : Str) : Prop where
  ex : ∃ A, mg c = some (.ref A) ∧ PySem.W.excIn K A [.type "ValueError", .type "Exception", .type "BaseException", .type "object"] "ValueError.__new__" = true ∧ PySem.W.keepIn K (.ref A) = true ∧
    PySem.W.subIn K (.ref A) (.type "BaseException") = some true ∧ PySem.W.typeIn K (.ref A) = some (.type "type")
theorem vs_raise {x m : Str} {j : Nat} {p1 p2 p3 : Pos} (V0 : Vx X W) (hx : XC X.K X.mg x) (hg : Gl X x := by rfl) (hdb : (x == ("__debug__" : Str)) = false := by decide) : VS X ρ W pn (.Raise (some (.Call (.Name x p1) [.Constant (.str m) j p2] [] p3)) none pos) (sRaise x) := by
  obtain ⟨A, h1, h2, h3, h4, h5⟩ := hx.ex
  refine ⟨_, ps_raise V0.calm V0.tk (pmk_own PySem.F.excBase_ValueError h2 h1 h3 (raises_own h4 h5) hg hdb), fun π e σ w D hp m h => ?_⟩
  exact h σ w A h1 m (.refl w)
/-! ### defs -/
def mask (ms : List Nat) (e : Env) (k : Nat) : Env := (List.range k).map fun j => if j ∈ ms then at? e j else none
def PostF (C : Cc) (ms : List Nat) (vs : List V) (w : WS) (r : Option FR) (Q : VK) (E : XK) : Prop := match r with
  | none => False
  | some (.ret b e) => ∀ v w', Mt C [] (mask ms e vs.length) (vs.map some) w' → Frm w w' → OOk C (vs.map some) w w' (.b b) v → Q v w'.H
  | some (.ex c e) => ∀ w' A, C.mg c = some (.ref A) → Mt C [] (mask ms e vs.length) (vs.map some) w' → Frm w w' → E (.ref A) none w'.H
/-- a def's promise: it computes F; the parameters at ms are changed -/
def spV (C : Cc) (n : Nat) (ms : List Nat) (F : Fn) : Sp := fun vs H Q E => vs.length = n ∧ ∃ (bs : List B) (w : WS), w.H = H ∧ Mt C [] (bs.map some) (vs.map some) w ∧ PostF C ms vs w (F bs) Q E
theorem at_map {bs : List B} {i : Nat} : at? (bs.map some) i = bs[i]? := by
  unfold at?
  rw [List.getElem?_map]
  cases bs[i]? <;> rfl
theorem at_app {bs : List B} {k i : Nat} {b : B} (h : at? (bs.map some ++ List.replicate k none) i = some b) : bs[i]? = some b := by
  unfold at? at h
  by_cases hi : i < bs.length
  · rw [List.getElem?_append_left (by simpa using hi), List.getElem?_map] at h
    cases q : bs[i]? with
    | none => rw [q] at h; cases h
    | some z => rw [q] at h; exact h
  · rw [List.getElem?_append_right (by simpa using hi), List.getElem?_replicate] at h
    split at h <;> (rename_i z; split at z <;> cases z) <;> cases h
theorem at_mask {ms : List Nat} {e : Env} {k i : Nat} {b : B} (h : at? (mask ms e k) i = some b) : i ∈ ms ∧ i < k ∧ at? e i = some b := by
  unfold at? mask at h
  rw [List.getElem?_map] at h
  by_cases hi : i < k
  · rw [List.getElem?_range hi] at h
    simp only [Option.map_some] at h
    by_cases hm : i ∈ ms
    · rw [if_pos hm] at h
      exact ⟨hm, hi, h⟩
    · rw [if_neg hm] at h
      cases h
  · rw [List.getElem?_eq_none (by simpa using hi)] at h
    cases h
theorem body_post {C : Cc} {π : List (Nat × V)} {ms : List Nat} {vs : List V} {w w' : WS} {e : Env} {σ' : St} (hms : ∀ j ∈ ms, ∀ v, vs[j]? = some v → (j, v) ∈ π) (m : Mt C π e σ' w') (f : Frm w w') :
    ∃ w2, Mt C [] (mask ms e vs.length) (vs.map some) w2 ∧ Frm w w2 ∧ w2.H = w'.H ∧ w2.G = w'.G ∧ ∀ i a, w2.fp i a → w'.fp i a := by
  refine ⟨{ w' with fp := fun i a => (at? (mask ms e vs.length) i).isSome = true ∧ w'.fp i a }, ⟨by unfold mask; simp, m.sub, fun i b q => ?_, fun i q a z => ?_, fun i j a x y => m.dis i j a x.2 y.2, fun p h => by cases h⟩, ⟨f.g, fun a o h n => ?_, f.t⟩, rfl, rfl, fun i a z => z.2⟩
  · obtain ⟨h1, h2, h3⟩ := at_mask q
    obtain ⟨v, g1, g2⟩ := m.bok i b h3
    have hv : vs[i]? = some vs[i] := List.getElem?_eq_getElem h2
    have hp := m.pin _ (hms i h1 _ hv)
    simp only at hp
    rw [g1] at hp
    have ev : v = vs[i] := Option.some.inj (Option.some.inj hp)
    refine ⟨v, by rw [List.getElem?_map, hv, ev]; rfl, ?_⟩
    have e1 : (fun a => (at? (mask ms e vs.length) i).isSome = true ∧ w'.fp i a) = w'.fp i := by
      funext a
      exact propext ⟨fun z => z.2, fun z => ⟨by rw [q]; rfl, z⟩⟩
    show BOk C w'.G w'.H b v (fun a => (at? (mask ms e vs.length) i).isSome = true ∧ w'.fp i a)
    rw [e1]
    exact g2
  · have z1 : (at? (mask ms e vs.length) i).isSome = true := z.1
    rw [q] at z1
    cases z1
  · obtain ⟨h1, h2, h3⟩ := f.k a o h n
    exact ⟨h1, h2, fun i z => h3 i z.2⟩
section
variable {P : Program} {w : World} {K : PySem.W.Frag} {mg : Str → Option Value} {base : Heap}
theorem fn_okV {x qual : Str} {params : Arguments} {body : List Stmt} {scope : Scope} {dvs : List V} {kws : List (Str × V)} {f : Addr} {fd : FuncData} {N ps : List Str} {k : Nat} {ρ : Nat → Res} {g : FS} (ms : List Nat) (F : FunD K x qual params body scope dvs kws f fd) (S : FnScope N ps scope) (hpn : ps.length ≤ N.length)
    (hbody : ∀ (cdv : Value) (A : Around) (outer : List PySem.Env) (s : Shared) (H : Hp) (E : XK), Room k (A.deeper (PyProof.Rows.envOfC qual scope s.heap.objs.size f cdv)) →
      Vx (cxOf (L2.CX P w) P w K mg base N qual scope f cdv A outer s H E) (fun cls d _ H => E cls d H) → VSs (cxOf (L2.CX P w) P w K mg base N qual scope f cdv A outer s H E) ρ (fun cls d _ H => E cls d H) ms body g) (hk : 1 ≤ k) :
    FnOk P w K mg base (L2.CX P w) (k + 1) f fd ps (spV ⟨K, mg, ρ⟩ ps.length ms (runF g N.length)) := by
  refine F.ok (CX := L2.CX P w) S (fun vs H Q E h => h.1) (fun cdv A outer s H vs Q E hr h => ?_)
  obtain ⟨hl, bs, w0, rfl, m, h⟩ := h
  have V0 : Vx (cxOf (L2.CX P w) P w K mg base N qual scope f cdv A outer s w0.H E) (fun cls d _ H => E cls d H) := ⟨rfl, hr.mono hk, S.nd, takes_of rfl rfl rfl rfl, passes_of rfl⟩
  obtain ⟨t, pt, ss⟩ := hbody cdv A outer s w0.H E hr V0
  refine ⟨t, pt, ?_⟩
  have hbl : bs.length = vs.length := by have := m.len; rwa [List.length_map, List.length_map] at this
  -- the start
  let π : List (Nat × V) := (List.range vs.length).filterMap fun j => if j ∈ ms then vs[j]?.map fun v => (j, v) else none
  have hπ : ∀ p ∈ π, p.1 ∈ ms ∧ vs[p.1]? = some p.2 := fun p hp => by
    obtain ⟨j, hj, e⟩ := List.mem_filterMap.mp hp
    split at e
    · rename_i hm
      cases q : vs[j]? with
      | none => rw [q] at e; cases e
      | some v => rw [q] at e; cases e; exact ⟨hm, q⟩
    · cases e
  have hπ2 : ∀ j ∈ ms, ∀ v, vs[j]? = some v → (j, v) ∈ π := fun j hj v hv => by
    refine List.mem_filterMap.mpr ⟨j, List.mem_range.mpr (List.getElem?_eq_some_iff.mp hv).1, ?_⟩
    rw [if_pos hj, hv]
    rfl
  have m0 : Mt ⟨K, mg, ρ⟩ π (bs.map some ++ List.replicate (N.length - bs.length) none) (L2.start N vs) w0 := by
    unfold L2.start
    refine ⟨by simp [hbl], m.sub, fun i b q => ?_, fun i q a z => ?_, m.dis, fun p hp => ?_⟩
    · have hb := at_app q
      obtain ⟨v, g1, g2⟩ := m.bok i b (by rw [at_map]; exact hb)
      refine ⟨v, ?_, g2⟩
      have hi : i < vs.length := by rw [← hbl]; exact (List.getElem?_eq_some_iff.mp hb).1
      rw [List.getElem?_append_left (by simpa using hi)]
      exact g1
    · refine m.non i ?_ a z
      rw [at_map]
      cases qb : bs[i]? with
      | none => rfl
      | some b =>
        unfold at? at q
        have hi := (List.getElem?_eq_some_iff.mp qb).1
        rw [List.getElem?_append_left (by simpa using hi), List.getElem?_map, qb] at q
        cases q
    · obtain ⟨h1, h2⟩ := hπ p hp
      have hi := (List.getElem?_eq_some_iff.mp h2).1
      rw [List.getElem?_append_left (by simpa using hi), List.getElem?_map, h2]
      rfl
  refine ss π _ _ w0 _ (fun p hp => (hπ p hp).1) m0 ?_
  unfold runF at h
  cases q : g (bs.map some ++ List.replicate (N.length - bs.length) none) with
  | none => rw [q] at h; exact h.elim
  | some x =>
    rw [q] at h
    cases x with
    | nx e =>
      intro σ' w' m' f'
      obtain ⟨w2, m2, f2, eH, eG, hl2⟩ := body_post hπ2 m' f'
      rw [← eH]
      exact h .non w2 m2 f2 (.fr .non)
    | rt b e =>
      intro v σ' w' m' f' k'
      obtain ⟨w2, m2, f2, eH, eG, hl2⟩ := body_post hπ2 m' f'
      rw [← eH]
      refine h v w2 m2 f2 ?_
      obtain ⟨fp, k1, k2⟩ := k'
      exact ⟨fp, by rw [eG, eH]; exact k1, fun a ha => ⟨(k2 a ha).1, fun i z => (k2 a ha).2 i (hl2 i a z)⟩⟩
    | bk e => exact h.elim
    | ct e => exact h.elim
    | ex c e =>
      intro σ' w' A hA m' f'
      obtain ⟨w2, m2, f2, eH, eG, hl2⟩ := body_post hπ2 m' f'
      rw [← eH]
      exact h w2 A hA m2 f2
end
end
end VL

set_option maxRecDepth 100000
/-! VL8: calls of defs. -/
namespace VL
open PySem L2
section
variable {X : Cx} {ρ : Nat → Res} {W : WX} {a b c : Expr} {es : List Expr} {pos p : Pos} {fa fb fc : FE} {as_ : FA} {C : Cc} {π : List (Nat × V)} {e e1 e2 : Env} {σ : St} {w w0 w1 w2 : WS}
theorem va_F (ha : VE X ρ W a fa) (hr : VA X ρ W es as_) (hs : starEach (a :: es) X.env = (false, eval a X.env) :: starEach es X.env := by rfl) : VA X ρ W (a :: es) (aF fa as_) := by
  obtain ⟨t, p, s⟩ := ha
  obtain ⟨t2, p2, s2⟩ := hr
  refine ⟨_, pa_cons p p2 hs, fun π e σ w Q m h => ?_⟩
  refine s π e σ w _ m (h.bnd fun o1 e1 v1 w1 m1 f1 k1 h1 => ?_)
  cases q : fzB e1 o1 with
  | none => rw [q] at h1; exact h1.elim
  | some pr =>
    rw [q] at h1
    simp only [Option.bind_some] at h1
    obtain ⟨wf, mf, ff, eH, hb⟩ := fzB_sound (e' := pr.2) m1 f1 k1 q
    rw [← eH]
    refine s2 π pr.2 σ wf _ mf ((h1.from ff).bnd fun os e3 vs w3 m3 f3 k3 h3 => ?_)
    refine h3.from f3 (v1 :: vs) w3 m3 (.refl _) (.cons ?_ (paired_base ff k3))
    exact ⟨fun _ => False, hb.mono f3.g (fun _ z => z.elim), fun _ z => z.elim⟩
theorem va_M (i : Nat) {x : Str} {px : Pos} (hr : VA X ρ W es as_) (hN : X.N[i]? = some x := by rfl) (hv : Vis X.env.scope x := by first | exact Or.inl rfl | exact Or.inr (Or.inl rfl) | exact Or.inr (Or.inr rfl)) (hd : (x == ("__debug__" : Str)) = false := by decide)
    (hcd : (x == ("__classdict__" : Str)) = false := by decide) (hs : starEach (.Name x px :: es) X.env = (false, eval (.Name x px) X.env) :: starEach es X.env := by rfl) : VA X ρ W (.Name x px :: es) (aM i as_) := by
  obtain ⟨t2, p2, s2⟩ := hr
  refine ⟨_, pa_cons (pe_var hN hv hd hcd) p2 hs, fun π e σ w Q m h => ?_⟩
  unfold aM at h
  cases q : at? e i with
  | none => rw [q] at h; exact h.elim
  | some bb =>
    rw [q] at h
    obtain ⟨v, h1, h2⟩ := m.bok i bb q
    refine ⟨v, h1, ?_⟩
    refine s2 π e σ w _ m (Post.bnd (rel' := fun w' os vs => Paired (OOk (cc X ρ) σ w w') os vs) h fun os e3 vs w3 m3 f3 k3 h3 => ?_)
    exact h3.from f3 (v :: vs) w3 m3 (.refl _) (.cons h1 k3)
theorem va_P (ha : VE X ρ W a fa) (hr : VA X ρ W es as_) (hs : starEach (a :: es) X.env = (false, eval a X.env) :: starEach es X.env := by rfl) : VA X ρ W (a :: es) (aP fa as_) := by
  obtain ⟨t, p, s⟩ := ha
  obtain ⟨t2, p2, s2⟩ := hr
  refine ⟨_, pa_cons p p2 hs, fun π e σ w Q m h => ?_⟩
  refine s π e σ w _ m (h.bnd fun o1 e1 v1 w1 m1 f1 k1 h1 => ?_)
  cases o1 with
  | s i =>
    refine s2 π e1 σ w1 _ m1 ((h1.from f1).bnd fun os e3 vs w3 m3 f3 k3 h3 => ?_)
    exact h3.from f3 (v1 :: vs) w3 m3 (.refl _) (.cons k1 (paired_base f1 k3))
  | b bb =>
    simp only at h1
    cases q : fzB e1 (.b bb) with
    | none => rw [q] at h1; exact h1.elim
    | some pr =>
      rw [q] at h1
      simp only [Option.bind_some] at h1
      obtain ⟨wf, mf, ff, eH, hb⟩ := fzB_sound (e' := pr.2) m1 f1 k1 q
      rw [← eH]
      refine s2 π pr.2 σ wf _ mf ((h1.from ff).bnd fun os e3 vs w3 m3 f3 k3 h3 => ?_)
      refine h3.from f3 (v1 :: vs) w3 m3 (.refl _) (.cons ?_ (paired_base ff k3))
      exact ⟨fun _ => False, hb.mono f3.g (fun _ z => z.elim), fun _ z => z.elim⟩
/-- a def that may be called -/
structure Cal (X : Cx) (ρ : Nat → Res) (x : Str) (n : Nat) (ms : List Nat) (F : Fn) (k : Nat) : Prop where
  ex : ∃ f fd ps, FnOk X.prog X.w X.K X.mg X.base (L2.CX X.prog X.w) k f fd ps (spV (cc X ρ) n ms F) ∧ X.mg x = some (.ref f) ∧ PySem.W.keepIn X.K (.ref f) = true ∧ Binds X.K fd ps []
/-- what is owned by a slot that is not lent has no owner among the others -/
theorem paired_get {α β : Type} {R : α → β → Prop} : ∀ {as : List α} {bs : List β} {i : Nat} {x : α}, Paired R as bs → as[i]? = some x → ∃ y, bs[i]? = some y ∧ R x y
  | _, _, _, _, .nil, e => by simp at e
  | _, _, 0, _, .cons r _, e => by simp at e; subst e; exact ⟨_, rfl, r⟩
  | _, _, i + 1, x, .cons _ t, e => by
    obtain ⟨y, h1, h2⟩ := paired_get (i := i) (x := x) t (by simpa using e)
    exact ⟨y, by simpa using h1, h2⟩
theorem paired_length {α β : Type} {R : α → β → Prop} : ∀ {as : List α} {bs : List β}, Paired R as bs → as.length = bs.length
  | _, _, .nil => rfl
  | _, _, .cons _ t => by simp [paired_length t]
theorem bindO_get {e : Env} : ∀ {os : List O} {bs : List B}, bindO e os = some bs → bs.length = os.length ∧ ∀ (j : Nat) (o : O), os[j]? = some o → match o with
    | .b x => bs[j]? = some x
    | .s i => ∃ x, at? e i = some x ∧ bs[j]? = some x
  | [], bs, h => by cases h; exact ⟨rfl, fun j o hj => by simp at hj⟩
  | .b x :: os, bs, h => by
    unfold bindO at h
    cases q : bindO e os with
    | none => rw [q] at h; cases h
    | some cs =>
      rw [q] at h
      cases h
      obtain ⟨h1, h2⟩ := bindO_get q
      refine ⟨by simp [h1], fun j o hj => ?_⟩
      cases j with
      | zero => simp at hj; subst hj; rfl
      | succ j =>
        have := h2 j o (by simpa using hj)
        cases o with
        | b y => simpa using this
        | s i => obtain ⟨y, g1, g2⟩ := this; exact ⟨y, g1, by simpa using g2⟩
  | .s i :: os, bs, h => by
    unfold bindO at h
    cases qa : at? e i with
    | none => rw [qa] at h; cases h
    | some x =>
      rw [qa] at h
      cases q : bindO e os with
      | none => rw [q] at h; cases h
      | some cs =>
        rw [q] at h
        cases h
        obtain ⟨h1, h2⟩ := bindO_get q
        refine ⟨by simp [h1], fun j o hj => ?_⟩
        cases j with
        | zero => simp at hj; subst hj; exact ⟨x, qa, rfl⟩
        | succ j =>
          have := h2 j o (by simpa using hj)
          cases o with
          | b y => simpa using this
          | s i => obtain ⟨y, g1, g2⟩ := this; exact ⟨y, g1, by simpa using g2⟩
theorem putBack_length : ∀ (mi : List (Nat × Nat)) (e : Env), (putBack e2 mi e).length = e.length
  | [], e => rfl
  | (j, i) :: r, e => by
    show (putBack e2 r (e.set i (at? e2 j))).length = e.length
    rw [putBack_length r, List.length_set]
theorem putBack_out : ∀ {mi : List (Nat × Nat)} {e : Env} {i : Nat}, (∀ j, (j, i) ∉ mi) → at? (putBack e2 mi e) i = at? e i
  | [], e, i, h => rfl
  | (j0, i0) :: r, e, i, h => by
    show at? (putBack e2 r (e.set i0 (at? e2 j0))) i = at? e i
    rw [putBack_out fun j hj => h j (List.mem_cons_of_mem _ hj)]
    exact at_set_ne fun z => h j0 (by rw [z]; exact List.mem_cons_self)
theorem putBack_in : ∀ {mi : List (Nat × Nat)} {e : Env} {i j : Nat}, (mi.map (·.2)).Nodup → (j, i) ∈ mi → i < e.length → at? (putBack e2 mi e) i = at? e2 j
  | (j0, i0) :: r, e, i, j, nd, h, hi => by
    show at? (putBack e2 r (e.set i0 (at? e2 j0))) i = at? e2 j
    rw [List.map_cons, List.nodup_cons] at nd
    rcases List.mem_cons.mp h with q | q
    · cases q
      rw [putBack_out fun k hk => nd.1 (List.mem_map.mpr ⟨(k, i0), hk, rfl⟩)]
      exact at_set_lt hi
    · exact putBack_in nd.2 q (by rw [List.length_set]; exact hi)
theorem at_lt {e : Env} {i : Nat} {b : B} (h : at? e i = some b) : i < e.length := by
  unfold at? at h
  cases q : e[i]? with
  | none => rw [q] at h; cases h
  | some y => exact (List.getElem?_eq_some_iff.mp q).1
def SlOk (mi : List (Nat × Nat)) (k : Nat) : O → Prop
  | .s i => (k, i) ∈ mi
  | .b x => ∀ (C : Cc) (G H : Hp) (v : V) (fp : Addr → Prop), BOk C G H x v fp → ∀ a, ¬ fp a
theorem slotsOk_s {mi : List (Nat × Nat)} : ∀ {os : List O} {k : Nat}, slotsOk mi k os = true → ∀ (j : Nat) (o : O), os[j]? = some o → SlOk mi (k + j) o
  | [], k, h, j, o, hj => by simp at hj
  | .s i :: os, k, h, j, o, hj => by
    unfold slotsOk at h
    rw [Bool.and_eq_true] at h
    cases j with
    | zero => simp at hj; subst hj; exact (of_decide_eq_true h.1 : (k, i) ∈ mi)
    | succ j =>
      have := slotsOk_s h.2 j o (by simpa using hj)
      rwa [show k + (j + 1) = k + 1 + j from by omega]
  | .b x :: os, k, h, j, o, hj => by
    unfold slotsOk at h
    rw [Bool.and_eq_true] at h
    cases j with
    | zero =>
      simp at hj
      subst hj
      intro C G H v fp hb
      cases x with
      | fr d => exact hb.2
      | ex d => exact hb.2
      | sc d => exact hb.2
      | ow d => exact absurd h.1 (by simp)
      | od d => exact absurd h.1 (by simp)
      | rs n d => exact absurd h.1 (by simp)
    | succ j =>
      have := slotsOk_s h.2 j o (by simpa using hj)
      rwa [show k + (j + 1) = k + 1 + j from by omega]
theorem BOk.noFp {x : B} {G H : Hp} {v : V} {fp : Addr → Prop} (h : BOk C G H x v fp) (n : ∀ a, ¬ fp a) : BOk C G H x v fun _ => False := by
  have e1 : fp = fun _ => False := by funext a; exact propext ⟨fun z => n a z, fun z => z.elim⟩
  rw [← e1]; exact h
/-- the world as the callee has it -/
def WS.lend (w : WS) (mi : List (Nat × Nat)) : WS := { w with fp := fun j a => ∃ i, (j, i) ∈ mi ∧ w.fp i a }
/-- and behind the call -/
def WS.back (w w' : WS) (mi : List (Nat × Nat)) : WS := { w' with fp := fun i a => (∃ j, (j, i) ∈ mi ∧ w'.fp j a) ∨ ((∀ j, (j, i) ∉ mi) ∧ w.fp i a) }
theorem miOk_at {mi : List (Nat × Nat)} {os : List O} (h : miOk mi os = true) {j i : Nat} (hm : (j, i) ∈ mi) : os[j]? = some (.s i) := by
  have z := List.all_eq_true.mp h _ hm
  split at z
  · rename_i i' q
    rw [q]
    have := beq_iff_eq.mp z
    rw [this]
  · cases z
theorem lend_mt {mi : List (Nat × Nat)} {os : List O} {bs : List B} {vs : List V} (m : Mt C π e σ w) (n2 : (mi.map (·.2)).Nodup) (hs : slotsOk mi 0 os = true) (hmi : miOk mi os = true) (hb : bindO e os = some bs) (r : Paired (OOk C σ w0 w) os vs) :
    Mt C [] (bs.map some) (vs.map some) (w.lend mi) := by
  obtain ⟨hl, hg⟩ := bindO_get hb
  have hl2 := paired_length r
  have pos : ∀ {j i}, (j, i) ∈ mi → os[j]? = some (.s i) := fun h => miOk_at hmi h
  have uniq : ∀ {j i i'}, (j, i) ∈ mi → (j, i') ∈ mi → i = i' := fun {j i i'} h h' => by
    have h1 := pos h
    rw [pos h'] at h1
    cases h1
    rfl
  have uniq2 : ∀ {j j' i}, (j, i) ∈ mi → (j', i) ∈ mi → j = j' := fun {j j' i} h h' => by
    have go : ∀ l : List (Nat × Nat), (l.map (·.2)).Nodup → (j, i) ∈ l → (j', i) ∈ l → j = j' := by
      intro l
      induction l with
      | nil => intro _ h; cases h
      | cons p l ih =>
        intro nd h h'
        rw [List.map_cons, List.nodup_cons] at nd
        rcases List.mem_cons.mp h with q | q
        · rcases List.mem_cons.mp h' with q' | q'
          · rw [← q] at q'; cases q'; rfl
          · exact absurd (List.mem_map.mpr ⟨_, q', by rw [← q]⟩) nd.1
        · rcases List.mem_cons.mp h' with q' | q'
          · exact absurd (List.mem_map.mpr ⟨_, q, by rw [← q']⟩) nd.1
          · exact ih nd.2 q q'
    exact go mi n2 h h'
  refine ⟨by rw [List.length_map, List.length_map, hl, hl2], m.sub, fun j b q => ?_, fun j q a z => ?_, fun j j' a x y => ?_, fun p h => by cases h⟩
  · rw [at_map] at q
    have hj : j < os.length := by rw [← hl]; exact (List.getElem?_eq_some_iff.mp q).1
    have ho : os[j]? = some os[j] := List.getElem?_eq_getElem hj
    obtain ⟨v, hv, ov⟩ := paired_get r ho
    refine ⟨v, by rw [List.getElem?_map, hv]; rfl, ?_⟩
    have g := hg j _ ho
    have s := slotsOk_s hs j _ ho
    cases qo : os[j] with
    | b x =>
      rw [qo] at g s ov
      simp only at g
      rw [q] at g
      cases g
      obtain ⟨fp, b1, b2⟩ := ov
      have b3 := b1.noFp (s _ _ _ _ _ b1)
      have e1 : (w.lend mi).fp j = fun _ => False := by
        funext a
        refine propext ⟨fun z => ?_, fun z => z.elim⟩
        obtain ⟨i, hi, _⟩ := z
        have h1 := pos hi
        rw [ho, qo] at h1
        cases h1
      rw [e1]
      exact b3
    | s i =>
      rw [qo] at g s ov
      simp only [Nat.zero_add] at g s
      have s : (j, i) ∈ mi := s
      obtain ⟨x, g1, g2⟩ := g
      rw [q] at g2
      cases g2
      obtain ⟨u, b1, b2⟩ := m.bok i b g1
      have ov' : σ[i]? = some (some v) := ov
      rw [ov'] at b1
      cases b1
      have e1 : (w.lend mi).fp j = w.fp i := by
        funext a
        exact propext ⟨fun ⟨i', h1, h2⟩ => by rw [uniq s h1]; exact h2, fun z => ⟨i, s, z⟩⟩
      rw [e1]
      exact b2
  · rw [at_map] at q
    obtain ⟨i, hi, hz⟩ := z
    have h1 := pos hi
    rw [List.getElem?_eq_none_iff, hl] at q
    rw [List.getElem?_eq_none q] at h1
    cases h1
  · obtain ⟨i, h1, h2⟩ := x
    obtain ⟨i', h3, h4⟩ := y
    have := m.dis i i' a h2 h4
    subst this
    exact uniq2 h1 h3
theorem back_mt {mi : List (Nat × Nat)} {os : List O} {vs : List V} {w' : WS} {k : Nat} (m : Mt C π e σ w) (n2 : (mi.map (·.2)).Nodup) (hmi : miOk mi os = true) (r : Paired (OOk C σ w0 w) os vs) (f : Frm (w.lend mi) w')
    (m' : Mt C [] (mask (mi.map (·.1)) e2 k) (vs.map some) w') (hk : k = vs.length) : Mt C π (putBack e2 mi e) σ (w.back w' mi) ∧ Frm w (w.back w' mi) := by
  have pos : ∀ {j i}, (j, i) ∈ mi → os[j]? = some (.s i) := fun h => miOk_at hmi h
  have notLent : ∀ {i a}, (∀ j, (j, i) ∉ mi) → w.fp i a → (∃ o, w.H a = some o ∧ w.G a = none) ∧ ∀ j, ¬ (w.lend mi).fp j a := fun {i a} h1 h2 => by
    obtain ⟨h3, o, h4⟩ := m.own h2
    refine ⟨⟨o, h4, h3⟩, fun j ⟨i', h5, h6⟩ => ?_⟩
    have := m.dis i i' a h2 h6
    subst this
    exact h1 j h5
  have kept : ∀ {i a}, (∀ j, (j, i) ∉ mi) → w.fp i a → w'.H a = w.H a ∧ w'.G a = w.G a ∧ ∀ j, ¬ w'.fp j a := fun {i a} h1 h2 => by
    obtain ⟨⟨o, h3, h4⟩, h5⟩ := notLent h1 h2
    obtain ⟨g1, g2, g3⟩ := f.k a o h3 h5
    exact ⟨g1.trans h3.symm, g2, g3⟩
  have uniq2 : ∀ {j j' i}, (j, i) ∈ mi → (j', i) ∈ mi → j = j' := fun {j j' i} h h' => by
    have go : ∀ l : List (Nat × Nat), (l.map (·.2)).Nodup → (j, i) ∈ l → (j', i) ∈ l → j = j' := by
      intro l
      induction l with
      | nil => intro _ h; cases h
      | cons p l ih =>
        intro nd h h'
        rw [List.map_cons, List.nodup_cons] at nd
        rcases List.mem_cons.mp h with q | q
        · rcases List.mem_cons.mp h' with q' | q'
          · rw [← q] at q'; cases q'; rfl
          · exact absurd (List.mem_map.mpr ⟨_, q', by rw [← q]⟩) nd.1
        · rcases List.mem_cons.mp h' with q' | q'
          · exact absurd (List.mem_map.mpr ⟨_, q, by rw [← q']⟩) nd.1
          · exact ih nd.2 q q'
    exact go mi n2 h h'
  have uniq : ∀ {j i i'}, (j, i) ∈ mi → (j, i') ∈ mi → i = i' := fun {j i i'} h h' => by
    have h1 := pos h
    rw [pos h'] at h1
    cases h1
    rfl
  refine ⟨⟨by rw [putBack_length]; exact m.len, m'.sub, fun i b q => ?_, fun i q a z => ?_, fun i i' a x y => ?_, m.pin⟩, ⟨f.g, fun a o h n => ?_, f.t⟩⟩
  · by_cases hm : ∃ j, (j, i) ∈ mi
    · obtain ⟨j, hj⟩ := hm
      have ho := pos hj
      obtain ⟨v, hv, ov⟩ := paired_get r ho
      have hi : i < e.length := by rw [← putBack_length (e2 := e2) mi e]; exact at_lt q
      rw [putBack_in n2 hj hi] at q
      have hjv := (List.getElem?_eq_some_iff.mp hv).1
      have q2 : at? (mask (mi.map (·.1)) e2 k) j = some b := by
        unfold mask
        unfold at?
        rw [List.getElem?_map, List.getElem?_range (by rw [hk]; exact hjv)]
        simp only [Option.map_some]
        rw [if_pos (List.mem_map.mpr ⟨(j, i), hj, rfl⟩)]
        exact q
      obtain ⟨u, g1, g2⟩ := m'.bok j b q2
      rw [List.getElem?_map, hv] at g1
      have ev : v = u := Option.some.inj (Option.some.inj g1)
      subst ev
      have ov' : σ[i]? = some (some v) := ov
      refine ⟨v, ov', ?_⟩
      have e1 : (w.back w' mi).fp i = w'.fp j := by
        funext a
        refine propext ⟨fun z => ?_, fun z => .inl ⟨j, hj, z⟩⟩
        rcases z with ⟨j', h1, h2⟩ | ⟨h1, _⟩
        · rw [uniq2 hj h1]; exact h2
        · exact absurd hj (h1 j)
      rw [e1]
      exact g2
    · have hn : ∀ j, (j, i) ∉ mi := fun j hj => hm ⟨j, hj⟩
      rw [putBack_out hn] at q
      obtain ⟨v, g1, g2⟩ := m.bok i b q
      refine ⟨v, g1, ?_⟩
      have e1 : (w.back w' mi).fp i = w.fp i := by
        funext a
        refine propext ⟨fun z => ?_, fun z => .inr ⟨hn, z⟩⟩
        rcases z with ⟨j', h1, h2⟩ | ⟨h1, h2⟩
        · exact absurd h1 (hn j')
        · exact h2
      rw [e1]
      exact g2.mono f.g fun a ha => ⟨(kept hn ha).1, (kept hn ha).2.1⟩
  · rcases z with ⟨j, h1, h2⟩ | ⟨h1, h2⟩
    · by_cases hi : i < e.length
      · rw [putBack_in n2 h1 hi] at q
        refine m'.non j ?_ a h2
        unfold mask
        unfold at?
        by_cases hjk : j < k
        · rw [List.getElem?_map, List.getElem?_range hjk]
          simp only [Option.map_some]
          rw [if_pos (List.mem_map.mpr ⟨(j, i), h1, rfl⟩)]
          exact q
        · rw [List.getElem?_eq_none (by simpa using hjk)]
      · -- no such slot
        obtain ⟨v, hv, ov⟩ := paired_get r (pos h1)
        have ov' : σ[i]? = some (some v) := ov
        have := (List.getElem?_eq_some_iff.mp ov').1
        rw [← m.len] at this
        exact absurd this hi
    · rw [putBack_out h1] at q
      exact m.non i q a h2
  · rcases x with ⟨j, h1, h2⟩ | ⟨h1, h2⟩
    · rcases y with ⟨j', h3, h4⟩ | ⟨h3, h4⟩
      · have := m'.dis j j' a h2 h4
        subst this
        exact uniq h1 h3
      · exact absurd h2 ((kept h3 h4).2.2 j)
    · rcases y with ⟨j', h3, h4⟩ | ⟨h3, h4⟩
      · exact absurd h4 ((kept h1 h2).2.2 j')
      · exact m.dis i i' a h2 h4
  · have hn : ∀ j, ¬ (w.lend mi).fp j a := fun j ⟨i, _, z⟩ => n i z
    obtain ⟨h1, h2, h3⟩ := f.k a o h hn
    refine ⟨h1, h2, fun i z => ?_⟩
    rcases z with ⟨j, _, z⟩ | ⟨_, z⟩
    · exact h3 j z
    · exact n i z
theorem ve_call {x : Str} {n k : Nat} {mi : List (Nat × Nat)} {F : Fn} (V0 : Vx X W) (c : Cal X ρ x n (mi.map (·.1)) F k) (hr : Room k X.A) (ha : VA X ρ W (a :: es) as_) (n2 : (mi.map (·.2)).Nodup := by decide) (hg : Gl X x := by rfl)
    (hdb : (x == ("__debug__" : Str)) = false := by decide) (he : starEach (a :: es) X.env = (false, eval a X.env) :: starEach es X.env := by rfl) (hpl : (backTo pos (starEach es X.env)).any (·.1) = false := by rfl) :
    VE X ρ W (.Call (.Name x p) (a :: es) [] pos) (fCall F n mi as_) := by
  obtain ⟨f, fd, ps, FO, gm, gk, gb⟩ := c.ex
  obtain ⟨t, pa, s⟩ := ha
  refine ⟨_, pe_callS FO hr hg gm gk gb (fun σ => passAt V0.tk σ) pa hdb he hpl, fun π e σ w Q m h => ?_⟩
  refine s π e σ w _ m (h.bnd fun os e1 vs w1 m1 f1 k1 h1 => ?_)
  have h2 := h1.from f1
  split at h2
  case isFalse => exact h2.elim
  case isTrue hok =>
    rw [Bool.and_eq_true, Bool.and_eq_true] at hok
    obtain ⟨hok, hlen⟩ := hok
    have hlen := beq_iff_eq.mp hlen
    cases qb : bindO e1 os with
    | none => rw [qb] at h2; exact h2.elim
    | some bs =>
      rw [qb] at h2
      simp only [Option.bind_some] at h2
      refine ⟨?_, bs, w1.lend mi, rfl, lend_mt m1 n2 hok.1 hok.2 qb k1, ?_⟩
      · rw [← paired_length k1]; exact hlen
      · cases qF : F bs with
        | none => rw [qF] at h2; exact h2.elim
        | some r =>
          rw [qF] at h2
          cases r with
          | ret b e2 =>
            intro v w' m' f' k'
            obtain ⟨g1, g2⟩ := back_mt m1 n2 hok.2 k1 f' m' rfl
            refine h2 v (w1.back w' mi) g1 g2 ?_
            obtain ⟨fp, b1, b2⟩ := k'
            refine ⟨fp, b1, fun a ha => ⟨f1.back ?_, fun i z => ?_⟩⟩
            · rcases (b2 a ha).1 with q | ⟨j, i, q1, q2⟩
              · exact .inl q
              · exact .inr ⟨i, q2⟩
            · rcases z with ⟨j, _, z⟩ | ⟨hn, z⟩
              · exact (b2 a ha).2 j z
              · obtain ⟨_, o, ho⟩ := m1.own z
                rcases (b2 a ha).1 with q | ⟨j, i', q1, q2⟩
                · have q' : w1.H a = none := q
                  rw [ho] at q'; cases q'
                · have := m1.dis i i' a z q2
                  subst this
                  exact hn j q1
          | ex c e2 =>
            intro w' A hA m' f'
            obtain ⟨g1, g2⟩ := back_mt m1 n2 hok.2 k1 f' m' rfl
            exact h2 (w1.back w' mi) A hA g1 g2
/-! ### names lent to be read -/
/-- the world in which what the arguments' slots own is frozen -/
noncomputable def WS.lent (w : WS) (os : List O) : WS := by
  classical
  exact { G := fun a => if ∃ i, O.s i ∈ os ∧ w.fp i a then w.H a else w.G a, H := w.H, fp := fun _ _ => False }
theorem lent_G (m : Mt C π e σ w) {os : List O} : Same w.G (w.lent os).G := fun a o h => by
  classical
  show (if ∃ i, O.s i ∈ os ∧ w.fp i a then w.H a else w.G a) = some o
  by_cases z : ∃ i, O.s i ∈ os ∧ w.fp i a
  · obtain ⟨i, _, z⟩ := z
    obtain ⟨h1, _⟩ := m.own z
    rw [h] at h1; cases h1
  · rw [if_neg z]; exact h
theorem lent_sub (m : Mt C π e σ w) {os : List O} : Same (w.lent os).G w.H := fun a o h => by
  classical
  have h' : (if ∃ i, O.s i ∈ os ∧ w.fp i a then w.H a else w.G a) = some o := h
  by_cases z : ∃ i, O.s i ∈ os ∧ w.fp i a
  · rw [if_pos z] at h'; exact h'
  · rw [if_neg z] at h'; exact m.sub a o h'
theorem lent_at {os : List O} {i : Nat} {a : Addr} (h : O.s i ∈ os) (h2 : w.fp i a) : (w.lent os).G a = w.H a := by
  classical
  show (if ∃ i, O.s i ∈ os ∧ w.fp i a then w.H a else w.G a) = w.H a
  rw [if_pos ⟨i, h, h2⟩]
theorem lent_bok (m : Mt C π e σ w) {os : List O} {i : Nat} {x y : B} {v : V} (h : O.s i ∈ os) (hx : BOk C w.G w.H x v (w.fp i)) (hy : lent x = some y) : BOk C (w.lent os).G w.H y v fun _ => False := by
  have g := lent_G (os := os) m
  cases x with
  | fr d => cases hy; exact ⟨hx.1.mono g, fun _ z => z⟩
  | ow ds =>
    cases hy
    obtain ⟨p, xs, rfl, h1, h2, h3, h4⟩ := hx
    have e1 := lent_at (os := os) h ((h4 p).mpr rfl)
    exact ⟨.lst (e1.trans h2) (h3.mono g), fun _ z => z⟩
  | od ds =>
    cases hy
    obtain ⟨p, xs, rfl, h1, h2, h3, h5, h4⟩ := hx
    have e1 := lent_at (os := os) h ((h4 p).mpr rfl)
    exact ⟨.dic (e1.trans h2) h3 (h5.mono g), fun _ z => z⟩
  | ex c =>
    cases hy
    obtain ⟨⟨p, A, h1, h2, h3⟩, _⟩ := hx
    exact ⟨⟨p, A, h1, h2, g _ _ h3⟩, fun _ z => z⟩
  | sc ns =>
    cases hy
    obtain ⟨⟨p, h1, h2⟩, _⟩ := hx
    exact ⟨⟨p, h1, g.seq h2⟩, fun _ z => z⟩
  | rs n d => cases hy
theorem lent_mt (m : Mt C π e σ w) {os' : List O} : ∀ {os : List O} {bs : List B} {vs : List V}, (∀ o ∈ os, o ∈ os') → flatO os = true → lendO e os = some bs → Paired (OOk C σ w0 w) os vs →
    bs.length = vs.length ∧ ∀ (j : Nat) (b : B), bs[j]? = some b → ∃ v, vs[j]? = some v ∧ BOk C (w.lent os').G w.H b v fun _ => False
  | [], bs, _, _, _, h, .nil => by cases h; exact ⟨rfl, fun j b q => by simp at q⟩
  | .b x :: os, bs, v :: vs, hs, hf, h, .cons r t => by
    unfold lendO at h
    unfold flatO at hf
    rw [Bool.and_eq_true] at hf
    cases q : lendO e os with
    | none => rw [q] at h; cases h
    | some cs =>
      rw [q] at h
      cases h
      obtain ⟨h1, h2⟩ := lent_mt m (fun o ho => hs o (List.mem_cons_of_mem _ ho)) hf.2 q t
      refine ⟨by simp [h1], fun j b qb => ?_⟩
      cases j with
      | zero =>
        simp at qb
        subst qb
        refine ⟨v, rfl, ?_⟩
        obtain ⟨fp, b1, b2⟩ := r
        have b3 : BOk C w.G w.H x v fun _ => False := by
          cases x with
          | fr d => exact ⟨b1.1, fun _ z => z⟩
          | ex d => exact ⟨b1.1, fun _ z => z⟩
          | sc d => exact ⟨b1.1, fun _ z => z⟩
          | ow d => exact absurd hf.1 (by simp)
          | od d => exact absurd hf.1 (by simp)
          | rs n d => exact absurd hf.1 (by simp)
        exact b3.mono (lent_G m) (fun _ z => z.elim)
      | succ j => exact h2 j b (by simpa using qb)
  | .s i :: os, bs, v :: vs, hs, hf, h, .cons r t => by
    unfold lendO at h
    cases qa : (at? e i).bind lent with
    | none => rw [qa] at h; cases h
    | some y =>
      rw [qa] at h
      cases q : lendO e os with
      | none => rw [q] at h; cases h
      | some cs =>
        rw [q] at h
        cases h
        obtain ⟨h1, h2⟩ := lent_mt m (fun o ho => hs o (List.mem_cons_of_mem _ ho)) (by unfold flatO at hf; exact hf) q t
        refine ⟨by simp [h1], fun j b qb => ?_⟩
        cases j with
        | zero =>
          simp at qb
          subst qb
          refine ⟨v, rfl, ?_⟩
          cases qx : at? e i with
          | none => rw [qx] at qa; cases qa
          | some x =>
            rw [qx] at qa
            obtain ⟨u, g1, g2⟩ := m.bok i x qx
            have r' : σ[i]? = some (some v) := r
            rw [r'] at g1
            cases g1
            exact lent_bok m (hs _ List.mem_cons_self) g2 qa
        | succ j => exact h2 j b (by simpa using qb)
theorem flat_rp {K : PySem.W.Frag} {G G' : Hp} {v : V} {d : PyData} (h : Rp K G v d) (hf : isFlat d = true) : Rp K G' v d := by
  cases h with
  | non => exact .non
  | bl b => exact .bl b
  | int i => exact .int i
  | str x => exact .str x
  | lst _ _ => cases hf
  | tup _ _ => cases hf
  | dic _ _ _ => cases hf
theorem ve_callP {x : Str} {n k : Nat} {F : Fn} (V0 : Vx X W) (c : Cal X ρ x n [] F k) (hr : Room k X.A) (ha : VA X ρ W (a :: es) as_) (hg : Gl X x := by rfl)
    (hdb : (x == ("__debug__" : Str)) = false := by decide) (he : starEach (a :: es) X.env = (false, eval a X.env) :: starEach es X.env := by rfl) (hpl : (backTo pos (starEach es X.env)).any (·.1) = false := by rfl) :
    VE X ρ W (.Call (.Name x p) (a :: es) [] pos) (fCallP F n as_) := by
  obtain ⟨f, fd, ps, FO, gm, gk, gb⟩ := c.ex
  obtain ⟨t, pa, s⟩ := ha
  refine ⟨_, pe_callS FO hr hg gm gk gb (fun σ => passAt V0.tk σ) pa hdb he hpl, fun π e σ w Q m h => ?_⟩
  refine s π e σ w _ m (h.bnd fun os e1 vs w1 m1 f1 k1 h1 => ?_)
  have h2 := h1.from f1
  split at h2
  case isFalse => exact h2.elim
  case isTrue hfo =>
  cases qb : lendO e1 os with
  | none => rw [qb] at h2; exact h2.elim
  | some bs =>
    rw [qb] at h2
    simp only [Option.bind_some] at h2
    split at h2
    case isFalse => exact h2.elim
    case isTrue hn =>
      obtain ⟨hl, hb⟩ := lent_mt (os' := os) m1 (fun o ho => ho) hfo qb k1
      have mc : Mt (cc X ρ) [] (bs.map some) (vs.map some) (w1.lent os) := ⟨by simp [hl], lent_sub m1, fun i b q => by
        rw [at_map] at q
        obtain ⟨v, g1, g2⟩ := hb i b q
        exact ⟨v, by rw [List.getElem?_map, g1]; rfl, g2⟩, fun i q a z => z, fun i j a z _ => z.elim, fun p h => by cases h⟩
      refine ⟨hl.symm.trans hn, bs, w1.lent os, rfl, mc, ?_⟩
      -- behind it: all owned as before
      have back : ∀ {w' : WS}, Frm (w1.lent os) w' → Mt (cc X ρ) π e1 σ { G := w1.G, H := w'.H, fp := w1.fp } ∧ Frm w1 { G := w1.G, H := w'.H, fp := w1.fp } := fun {w'} f' => by
        have keep : ∀ a o, w1.H a = some o → w'.H a = some o := fun a o h => (f'.k a o h fun _ z => z).1
        refine ⟨⟨m1.len, fun a o q => keep a o (m1.sub a o q), fun i b q => ?_, m1.non, m1.dis, m1.pin⟩, ⟨Same.refl _, fun a o h n => ⟨keep a o h, rfl, n⟩, f'.t⟩⟩
        obtain ⟨v, g1, g2⟩ := m1.bok i b q
        refine ⟨v, g1, g2.mono (Same.refl _) fun a ha => ⟨?_, rfl⟩⟩
        obtain ⟨_, o, ho⟩ := g2.own a ha
        exact (keep a o ho).trans ho.symm
      split at h2
      · rename_i d e2 qF
        rw [qF]
        split at h2
        · rename_i hfl
          intro v w' m' f' k'
          obtain ⟨g1, g2⟩ := back f'
          obtain ⟨fp, b1, b2⟩ := k'
          exact h2 v { G := w1.G, H := w'.H, fp := w1.fp } g1 g2 (.fr (flat_rp b1.1 hfl))
        · exact h2.elim
      · rename_i cc_ e2 qF
        rw [qF]
        intro w' A hA m' f'
        obtain ⟨g1, g2⟩ := back f'
        exact h2 { G := w1.G, H := w'.H, fp := w1.fp } A hA g1 g2
      · exact h2.elim
end
end VL

set_option maxRecDepth 100000
/-! VL9: changes of lists. -/
namespace VL
open PySem L2
section
variable {X : Cx} {ρ : Nat → Res} {W : WX} {pn : List Nat} {a b c o : Expr} {es : List Expr} {pos p apos cpos : Pos} {fa fb fc fx fv fy : FE} {fd : FD} {as_ : FA} {C : Cc} {π : List (Nat × V)} {e e1 e2 : Env} {σ : St} {w w0 w1 w2 : WS}
/-- the list of a name changed -/
theorem Mt.mut {i : Nat} {ds ds' : List PyData} (m : Mt C π e σ w) (h : at? e i = some (.ow ds)) : ∃ p xs, σ[i]? = some (some (.ref p)) ∧ w.H p = some (.lst xs) ∧ w.G p = none ∧ RpAll C.K w.G xs ds ∧
    ∀ xs', RpAll C.K w.G xs' ds' → Mt C π (e.set i (some (.ow ds'))) σ { w with H := upd w.H p (.lst xs') } ∧ Frm w { w with H := upd w.H p (.lst xs') } := by
  obtain ⟨v, h1, h2⟩ := m.bok i _ h
  obtain ⟨p, xs, rfl, g1, g2, g3, g4⟩ := h2
  refine ⟨p, xs, h1, g2, g1, g3, fun xs' r => ⟨⟨by rw [List.length_set]; exact m.len, fun a o q => ?_, fun j b q => ?_, fun j q a z => ?_, m.dis, m.pin⟩, ⟨Same.refl _, fun a o q n => ⟨?_, rfl, n⟩, fun a q => ?_⟩⟩⟩
  · show upd w.H p (.lst xs') a = some o
    rw [upd_ne (ne_of_none q g1)]
    exact m.sub a o q
  · by_cases hj : i = j
    · subst hj
      rw [at_set_same h] at q
      cases q
      exact ⟨.ref p, h1, p, xs', rfl, g1, upd_same, r, g4⟩
    · rw [at_set_ne hj] at q
      obtain ⟨u, k1, k2⟩ := m.bok j b q
      refine ⟨u, k1, k2.mono (Same.refl _) fun a ha => ⟨upd_ne fun z => ?_, rfl⟩⟩
      subst z
      exact hj (m.dis i j a ((g4 a).mpr rfl) ha)
  · by_cases hj : i = j
    · subst hj
      rw [at_set_same h] at q
      cases q
    · rw [at_set_ne hj] at q
      exact m.non j q a z
  · show upd w.H p (.lst xs') a = some o
    rw [upd_ne fun z => n i (by rw [z]; exact (g4 p).mpr rfl)]
    exact q
  · by_cases z : a = p
    · rw [z] at q
      have q' : upd w.H p (.lst xs') p = none := q
      rw [upd_same] at q'
      cases q'
    · have q' : upd w.H p (.lst xs') a = none := q
      rw [upd_ne z] at q'
      exact q'
/-- a method that changes its list -/
def MthV (X : Cx) (id : String) (g : List PyData → List PyData → Option (B × List PyData)) : Prop := ∃ r, MtR X id r ∧
  ∀ (G H : Hp) (p : Addr) (xs vs : List V) (ds as : List PyData) (b : B) (ds' : List PyData) (Q : VK), H p = some (.lst xs) → Same G H → G p = none → RpAll X.K G xs ds → RpAll X.K G vs as → g ds as = some (b, ds') →
    (∀ v d xs', b = .fr d → Rp X.K G v d → RpAll X.K G xs' ds' → Q v (upd H p (.lst xs'))) → r (.ref p) vs H Q
theorem se_mth {r : V → List V → Hp → VK → Prop} {g : List PyData → List PyData → Option (B × List PyData)} {i : Nat} {t : TA} (hr : ∀ (G H : Hp) (p : Addr) (xs vs : List V) (ds as : List PyData) (b : B) (ds' : List PyData) (Q : VK), H p = some (.lst xs) → Same G H → G p = none → RpAll C.K G xs ds → RpAll C.K G vs as → g ds as = some (b, ds') →
    (∀ v d xs', b = .fr d → Rp C.K G v d → RpAll C.K G xs' ds' → Q v (upd H p (.lst xs'))) → r (.ref p) vs H Q) (s : SD C W t fd) : SE C W (tBM C.K "list" r (tVar i) t) (fMth i g fd) := fun π e σ w Q m h => by
  unfold fMth at h
  split at h
  case h_2 => exact h.elim
  case h_1 dd q =>
    obtain ⟨v0, h1, h2⟩ := m.bok i _ q
    refine ⟨v0, h1, ?_⟩
    have h3 : Post C W π σ w (bnd (fd e) fun as e1 => match at? e1 i with
      | some (.ow ds) => (g ds as).bind fun p => some (.ok (O.b p.1) (e1.set i (some (.ow p.2))))
      | _ => none) (OOk C σ w) Q := h
    -- what the name holds is a list of its own, ahead too
    have hty : tyV C.K "list" v0 w.H := by
      obtain ⟨p, xs, rfl, _, g2, _⟩ := h2
      exact .inl ⟨rfl, xs, .of g2⟩
    refine ⟨hty, s π e σ w _ m (h3.bnd fun as e1 vs w1 m1 f1 k1 h4 => ?_)⟩
    have h5 := h4.from f1
    split at h5
    · rename_i ds q1
      cases qg : g ds as with
      | none => rw [qg] at h5; exact h5.elim
      | some pr =>
        rw [qg] at h5
        obtain ⟨b, ds'⟩ := pr
        simp only [Option.bind_some] at h5
        obtain ⟨p, xs, g1, g2, g3, g4, g5⟩ := m1.mut (ds' := ds') q1
        rw [h1] at g1
        cases g1
        refine hr w1.G w1.H p xs vs ds as b ds' Q g2 m1.sub g3 g4 k1 qg fun v d xs' eb rv rx => ?_
        subst eb
        obtain ⟨m2, f2⟩ := g5 xs' rx
        exact h5 v _ m2 f2 (.fr rv)
    · exact h5.elim
theorem ve_mth {name : Str} {id : String} {y : Str} {g : List PyData → List PyData → Option (B × List PyData)} {py : Pos} (hm : MthV X id g) (i : Nat) (slot : Slot "list" name id) (hty : typeOf (.builtin id) = pure (.type "method_descriptor")) (ha : VD X ρ W (a :: es) fd)
    (hN : X.N[i]? = some y := by rfl) (hv : Vis X.env.scope y := by first | exact Or.inl rfl | exact Or.inr (Or.inl rfl) | exact Or.inr (Or.inr rfl)) (hd : (y == ("__debug__" : Str)) = false := by decide) (hcd : (y == ("__classdict__" : Str)) = false := by decide)
    (hbase : attributeBase (.Name y py) name X.env (eval (.Name y py) X.env) = eval (.Name y py) X.env := by rfl)
    (hfew : ((backTo cpos (starEach (a :: es) X.env)).all (fun x => !x.1) && (backToKw cpos (keywordEach [] X.env)).all (fun x => x.1.isSome)
      && decide ((a :: es).length + ([] : List Keyword).length + (if ([] : List Keyword).isEmpty then 0 else 1) < 30)) = true := by rfl)
    (hline : (apos.endLine == cpos.line) = true := by rfl) (hs : starEach (a :: es) X.env = (false, eval a X.env) :: starEach es X.env := by rfl) (hplain : (backTo cpos (starEach es X.env)).any (·.1) = false := by rfl) :
    VE X ρ W (.Call (.Attribute (.Name y py) name apos) (a :: es) [] cpos) (fMth i g fd) := by
  obtain ⟨r, h1, h2⟩ := hm
  obtain ⟨t, pa, s⟩ := ha
  exact ⟨_, pe_bm PySem.F.plainAttrs_list slot hty h1 (pe_var hN hv hd hcd) pa hbase hfew hline hs hplain, se_mth h2 s⟩
theorem ve_mth0 {name : Str} {id : String} {y : Str} {g : List PyData → List PyData → Option (B × List PyData)} {py : Pos} (hm : MthV X id g) (i : Nat) (slot : Slot "list" name id) (hty : typeOf (.builtin id) = pure (.type "method_descriptor"))
    (hN : X.N[i]? = some y := by rfl) (hv : Vis X.env.scope y := by first | exact Or.inl rfl | exact Or.inr (Or.inl rfl) | exact Or.inr (Or.inr rfl)) (hd : (y == ("__debug__" : Str)) = false := by decide) (hcd : (y == ("__classdict__" : Str)) = false := by decide)
    (hbase : attributeBase (.Name y py) name X.env (eval (.Name y py) X.env) = eval (.Name y py) X.env := by rfl) (hline : (apos.endLine == cpos.line) = true := by rfl) :
    VE X ρ W (.Call (.Attribute (.Name y py) name apos) [] [] cpos) (fMth i g dNil) := by
  obtain ⟨r, h1, h2⟩ := hm
  refine ⟨_, pe_bm0 PySem.F.plainAttrs_list slot hty h1 (pe_var hN hv hd hcd) hbase hline, fun π e σ w Q m h => ?_⟩
  exact se_mth (t := tNil) (fd := dNil) h2 (fun π e σ w Q m h => h [] w m (.refl w) .nil) π e σ w Q m h
/-! ### the methods -/
theorem rp_lst {K : PySem.W.Frag} {G : Hp} {x : V} {ds : List PyData} (r : Rp K G x (.list ds)) : ∃ p xs, x = .ref p ∧ G p = some (.lst xs) ∧ RpAll K G xs ds := by
  cases r with
  | lst h1 h2 => exact ⟨_, _, rfl, h1, h2⟩
theorem lt_big {n : Nat} (h : n < big) : n < sizeLine := Nat.lt_of_lt_of_le h big_le
theorem v_append : MthV X "list.append" mAppend := by
  refine ⟨_, mt_append, fun G H p xs vs ds as b ds' Q hp s hG rx rv hg k => ?_⟩
  unfold mAppend at hg
  split at hg
  · split at hg
    · rename_i d hb
      cases hg
      cases rv with
      | cons r1 r2 =>
        cases r2
        exact ⟨p, xs, _, rfl, rfl, hp, by rw [rx.length]; exact lt_big hb, k .non .none _ rfl .non (rx.append (.cons r1 .nil))⟩
    · cases hg
  · cases hg
theorem v_extend : MthV X "list.extend" mExtend := by
  refine ⟨_, mt_extend, fun G H p xs vs ds as b ds' Q hp s hG rx rv hg k => ?_⟩
  unfold mExtend at hg
  split at hg
  · split at hg
    · rename_i es hb
      cases hg
      cases rv with
      | cons r1 r2 =>
        cases r2
        obtain ⟨q, ys, rfl, g1, g2⟩ := rp_lst r1
        exact ⟨p, q, xs, ys, rfl, rfl, hp, s _ _ g1, by rw [rx.length, g2.length]; exact le_big hb, k .non .none _ rfl .non (rx.append g2)⟩
    · cases hg
  · cases hg
theorem RpAll.dropLast {K : PySem.W.Frag} {G : Hp} {vs : List V} {ds : List PyData} (h : RpAll K G vs ds) : RpAll K G vs.dropLast ds.dropLast := by
  rw [List.dropLast_eq_take, List.dropLast_eq_take, h.length]
  exact h.take _
theorem v_pop : MthV X "list.pop" mPop := by
  refine ⟨_, MtR.or mt_pop mt_popAt, fun G H p xs vs ds as b ds' Q hp s hG rx rv hg k => ?_⟩
  unfold mPop at hg
  split at hg
  · cases rv
    cases q : ds[ds.length - 1]? with
    | none => rw [q] at hg; cases hg
    | some d =>
      rw [q] at hg
      cases hg
      obtain ⟨v, h1, h2⟩ := rx.get q
      exact .inl ⟨p, xs, v, rfl, rfl, hp, by rw [rx.length]; exact h1, k v d _ rfl h2 rx.dropLast⟩
  · split at hg
    · rename_i i hl
      have hl' : -(2 ^ 63) ≤ i ∧ i < 2 ^ 63 := by
        unfold lim63 at hl
        rw [decide_eq_true_eq] at hl
        omega
      cases rv with
      | cons r1 r2 =>
        cases r2
        cases r1
        cases q : seqIndex? i ds.length with
        | none => rw [q] at hg; cases hg
        | some n =>
          rw [q] at hg
          simp only [Option.bind_some] at hg
          cases q2 : ds[n]? with
          | none => rw [q2] at hg; cases hg
          | some d =>
            rw [q2] at hg
            cases hg
            obtain ⟨v, h1, h2⟩ := rx.get q2
            exact .inr ⟨p, xs, i, n, v, rfl, rfl, hp, hl'.1, hl'.2, by rw [rx.length]; exact q, h1, k v d _ rfl h2 (rx.eraseIdx n)⟩
    · cases hg
  · cases hg
theorem v_insert : MthV X "list.insert" mInsert := by
  refine ⟨_, mt_insert, fun G H p xs vs ds as b ds' Q hp s hG rx rv hg k => ?_⟩
  unfold mInsert at hg
  split at hg
  · split at hg
    · rename_i i d hb
      cases hg
      cases rv with
      | cons r1 r2 =>
        cases r1
        cases r2 with
        | cons r3 r4 =>
          cases r4
          exact ⟨p, xs, i, _, rfl, rfl, hp, by rw [rx.length]; exact lt_big hb.2.2, hb.1, by omega, k .non .none _ rfl .non (((rx.take _).append (.cons r3 .nil)).append (rx.drop _))⟩
    · cases hg
  · cases hg
theorem v_reverse : MthV X "list.reverse" mReverse := by
  refine ⟨_, mt_reverse, fun G H p xs vs ds as b ds' Q hp s hG rx rv hg k => ?_⟩
  unfold mReverse at hg
  split at hg
  · cases hg
    cases rv
    exact ⟨p, xs, rfl, rfl, hp, k .non .none _ rfl .non rx.reverse⟩
  · cases hg
theorem v_clear : MthV X "list.clear" mClear := by
  refine ⟨_, mt_clear, fun G H p xs vs ds as b ds' Q hp s hG rx rv hg k => ?_⟩
  unfold mClear at hg
  split at hg
  · cases hg
    cases rv
    exact ⟨p, xs, rfl, rfl, hp, k .non .none _ rfl .non .nil⟩
  · cases hg
/-! ### x.remove(y), x.index(y), x.count(y) of any data -/
theorem plain_of {d : PyData} (h : SeqAt.shaped d = true) : d.plain = true := PyData.plain_of_canLay0 d (SeqAt.canLay_of_shaped h)
theorem mt_removeD (hu : X.A.units + 66 < cLine) : MtR X "list.remove" (fun x vs H Q => ∃ (l : Addr) (xs : List V) (y : V) (d : PyData) (ds : List PyData) (j : Nat), x = .ref l ∧ vs = [y] ∧ H l = some (.lst xs) ∧ DpAll X.K H xs ds ∧ Dp X.K H y d ∧ SeqAt.shaped d = true ∧ SeqAt.shaped (.list ds) = true ∧
    SeqAt.dataPlace ds d = some j ∧ Q .non (upd H l (.lst (xs.eraseIdx j)))) := by
  intro pins s σ H x vs v us Q I rx rv h
  obtain ⟨l, xs, y, d, ds, j, rfl, rfl, hH, hx, hy, sd, sl, hp, q⟩ := h
  cases rx
  obtain ⟨u, rfl, ru⟩ := rv.one
  obtain ⟨z, its, n, r, hl, e⟩ := I.lstM hH
  obtain ⟨as, ra⟩ := Dp.readsAll I ds xs its hx r
  obtain ⟨bs, rb⟩ := Dp.reads I d y u hy ru
  have pl : PyData.plainAll ds = true := PyData.plainAll_of_canLay0 ds (SeqAt.canLay_of_shaped sl)
  refine SeqAt.remove_list_data (vs := its.toArray) ⟨_, e, rfl, n, rfl⟩ (by simpa using ra) rb pl (plain_of sd) ?_ hp (by rw [List.size_toArray]; omega) ?_
  · have := SeqAt.depth_of_shaped sd
    have h2 : min (PyData.depthAll ds) d.depth ≤ d.depth := Nat.min_le_right _ _
    omega
  · refine ⟨.non, _, I.lset (its' := its.eraseIdx j) hH e ?_ (r.eraseIdx j) ?_, rfl, q⟩
    · show its.toArray.eraseIdxIfInBounds j = (its.eraseIdx j).toArray
      rw [List.eraseIdxIfInBounds_toArray]
    · rw [List.length_eraseIdx]
      split <;> omega
end
end VL

set_option maxRecDepth 100000
/-! VL10: places, stores, augmented stores, several names at once, isinstance. -/
namespace VL
open PySem L2
section
variable {X : Cx} {ρ : Nat → Res} {W : WX} {pn : List Nat} {a b c o tg : Expr} {es : List Expr} {pos p apos cpos : Pos} {fa fb fc fx fv fy : FE} {fd : FD} {ft : FG} {as_ : FA} {C : Cc} {π : List (Nat × V)} {e e1 e2 : Env} {σ : St} {w w0 w1 w2 : WS}
theorem Vx.u66 (V0 : Vx X W) : X.A.units + 66 < cLine := by have := V0.room.un; omega
theorem v_remove (hu : X.A.units + 66 < cLine) : MthV X "list.remove" mRemove := by
  refine ⟨_, mt_removeD hu, fun G H p xs vs ds as b ds' Q hp s hG rx rv hg k => ?_⟩
  unfold mRemove at hg
  split at hg
  · rename_i d
    split at hg
    · rename_i hs
      cases q : SeqAt.dataPlace ds d with
      | none => rw [q] at hg; cases hg
      | some j =>
        rw [q] at hg
        cases hg
        cases rv with
        | cons r1 r2 =>
          cases r2
          exact ⟨p, xs, _, d, ds, j, rfl, rfl, hp, (RpAll.dp ds (SeqAt.canLay_of_shaped hs.2) (rx.mono s)), Rp.dp d (SeqAt.canLay_of_shaped hs.1) (r1.mono s), hs.1, hs.2, q, k .non .none _ rfl .non (rx.eraseIdx j)⟩
    · cases hg
  · cases hg
/-- a method that reads its list -/
def MtrV (X : Cx) (id : String) (g : List PyData → List PyData → Option B) : Prop := ∃ r, MtR X id r ∧
  ∀ (G H : Hp) (x : V) (vs : List V) (ds as : List PyData) (b : B) (Q : VK), Rq X.K G H x (.list ds) → Same G H → RpAll X.K G vs as → g ds as = some b → (∀ v d, b = .fr d → Rp X.K G v d → Q v H) → r x vs H Q
theorem se_mthR {r : V → List V → Hp → VK → Prop} {g : List PyData → List PyData → Option B} {t0 : TE} {t : TA} (hr : ∀ (G H : Hp) (x : V) (vs : List V) (ds as : List PyData) (b : B) (Q : VK), Rq C.K G H x (.list ds) → Same G H → RpAll C.K G vs as → g ds as = some b → (∀ v d, b = .fr d → Rp C.K G v d → Q v H) → r x vs H Q)
    (s0 : SE C W t0 fx) (s : SD C W t fd) : SE C W (tBM C.K "list" r t0 t) (fMthR g fx fd) := fun π e σ w Q m h => by
  refine s0 π e σ w _ m (h.bnd fun o1 e1 v1 w1 m1 f1 k1 h1 => ?_)
  have h2 := h1.from f1
  split at h2
  · rename_i ds0 q
    obtain ⟨p, xs, rfl, g1, g2⟩ := res_sound m1 k1 q
    refine ⟨.inl ⟨rfl, xs, .of g1⟩, s π e1 σ w1 _ m1 (h2.bnd fun as e2 vs w2 m2 f2 k2 h3 => ?_)⟩
    have h4 := h3.from f2
    split at h4
    · rename_i ds q2
      have rq2 := res_sound m2 (k1.step f2) q2
      cases qg : g ds as with
      | none => rw [qg] at h4; exact h4.elim
      | some b =>
        rw [qg] at h4
        simp only [Option.bind_some] at h4
        refine hr w2.G w2.H _ vs ds as b Q rq2 m2.sub k2 qg fun v d eb rv => ?_
        subst eb
        exact h4 v w2 m2 (.refl _) (.fr rv)
    · exact h4.elim
  · exact h2.elim
theorem ve_mthR {name : Str} {id : String} {g : List PyData → List PyData → Option B} (hm : MtrV X id g) (slot : Slot "list" name id) (hty : typeOf (.builtin id) = pure (.type "method_descriptor")) (ho : VE X ρ W o fx) (ha : VD X ρ W (a :: es) fd)
    (hbase : attributeBase o name X.env (eval o X.env) = eval o X.env := by rfl)
    (hfew : ((backTo cpos (starEach (a :: es) X.env)).all (fun x => !x.1) && (backToKw cpos (keywordEach [] X.env)).all (fun x => x.1.isSome)
      && decide ((a :: es).length + ([] : List Keyword).length + (if ([] : List Keyword).isEmpty then 0 else 1) < 30)) = true := by rfl)
    (hline : (apos.endLine == cpos.line) = true := by rfl) (hs : starEach (a :: es) X.env = (false, eval a X.env) :: starEach es X.env := by rfl) (hplain : (backTo cpos (starEach es X.env)).any (·.1) = false := by rfl) :
    VE X ρ W (.Call (.Attribute o name apos) (a :: es) [] cpos) (fMthR g fx fd) := by
  obtain ⟨r, h1, h2⟩ := hm
  obtain ⟨t0, p0, s0⟩ := ho
  obtain ⟨t, pa, s⟩ := ha
  exact ⟨_, pe_bm PySem.F.plainAttrs_list slot hty h1 p0 pa hbase hfew hline hs hplain, se_mthR h2 s0 s⟩
theorem place_at : ∀ {ds : List PyData} {d : PyData} {j : Nat}, SeqAt.dataPlace ds d = some j → ∃ z, ds[j]? = some z ∧ PyData.eqv z d = true ∧ ∀ (m : Nat) (z' : PyData), m < j → ds[m]? = some z' → PyData.eqv z' d = false := by
  intro ds d j h
  unfold SeqAt.dataPlace at h
  obtain ⟨hj, h1, h2⟩ := List.findIdx?_eq_some_iff_getElem.mp h
  refine ⟨ds[j], List.getElem?_eq_getElem hj, h1, fun m z' hm hz => ?_⟩
  obtain ⟨hl, rfl⟩ := List.getElem?_eq_some_iff.mp hz
  simpa using h2 m hm
theorem v_index (hu : X.A.units + 66 < cLine) : MtrV X "list.index" mIndex := by
  refine ⟨_, mt_indexD (by omega), fun G H x vs ds as b Q rx s rv hg k => ?_⟩
  unfold mIndex at hg
  split at hg
  · rename_i d
    split at hg
    · rename_i hs
      cases q : SeqAt.dataPlace ds d with
      | none => rw [q] at hg; cases hg
      | some j =>
        rw [q] at hg
        cases hg
        cases rv with
        | cons r1 r2 =>
          cases r2
          obtain ⟨z, h1, h2, h3⟩ := place_at q
          obtain ⟨p, xs, rfl, g1, g2⟩ := id rx
          exact ⟨p, _, d, ds, j, z, rfl, rfl, Rp.dp (.list ds) (SeqAt.canLay_of_shaped hs.2) (rx.rp s), Rp.dp d (SeqAt.canLay_of_shaped hs.1) (r1.mono s), hs.2, hs.1, h1, h2, h3, k _ _ rfl (.int _)⟩
    · cases hg
  · cases hg
/-! ### stores -/
theorem bndS_bnd {α β : Type} {r : Option (Out α)} {F : α → Env → Option (Out β)} {kk : β → Env → Option SO} : bndS (bnd r F) kk = bndS r fun a e => bndS (F a e) kk := by
  cases r with
  | none => rfl
  | some x => cases x <;> rfl
theorem put_sound {ti : TE} {i : Nat} {d : PyData} {x : V} {D : Ends} {kk : Unit → Env → Option SO} {Qt : St → Hp → Prop} (s : SE C W ti fx) (m : Mt C π e σ w) (r : Rp C.K w.G x d) (h : PostS C W π w (bndS (putAt i fx d e) kk) D)
    (hk : ∀ e2 w2, Mt C π e2 σ w2 → Frm w w2 → PostS C W π w2 (kk () e2) D → Qt σ w2.H) : gSub (tVar i) ti rSetL x σ w.H Qt := by
  unfold putAt at h
  cases q : at? e i with
  | none => rw [q] at h; exact h.elim
  | some b =>
    rw [q] at h
    obtain ⟨v, h1, h2⟩ := m.bok i b q
    refine ⟨v, h1, ?_⟩
    have h' : PostS C W π w (bndS (bnd (fx e) fun o e1 => match res e1 o, at? e1 i with
      | some (.int k), some (.ow ds) => (ixN ds.length k).bind fun j => some (.ok () (e1.set i (some (.ow (ds.set j d)))))
      | _, _ => none) kk) D := h
    rw [bndS_bnd] at h'
    refine s π e σ w _ m (h'.bnd fun o1 e1 v1 w1 m1 f1 k1 h3 => ?_)
    split at h3
    · rename_i k ds q1 q2
      cases qj : ixN ds.length k with
      | none => rw [qj] at h3; exact h3.elim
      | some j =>
        rw [qj] at h3
        simp only [Option.bind_some] at h3
        obtain ⟨p, xs, g1, g2, g3, g4, g5⟩ := m1.mut (ds' := ds.set j d) q2
        rw [h1] at g1
        cases g1
        have rk := res_sound m1 k1 q1
        cases rk
        obtain ⟨m2, f2⟩ := g5 (xs.set j x) (RpAll.set (r.mono f1.g) j g4)
        exact ⟨p, xs, k, j, rfl, rfl, g2, by rw [g4.length]; exact qj, hk _ _ m2 (f1.trans f2) (h3.from (f1.trans f2))⟩
    · exact h3.elim
theorem ss_put {te ti : TE} {i : Nat} (sv : SE C W te fv) (sx : SE C W ti fx) : SS C W pn (tAsg te (gSub (tVar i) ti rSetL)) (sPut i fx fv) := fun π e σ w D hp m h => by
  refine sv π e σ w _ m (h.bnd fun o1 e1 v1 w1 m1 f1 k1 h1 => ?_)
  cases q : fz e1 o1 with
  | none => rw [q] at h1; exact h1.elim
  | some pr =>
    rw [q] at h1
    obtain ⟨w2, m2, f2, eH, rp⟩ := fz_sound (e' := pr.2) m1 f1 k1 q
    rw [← eH]
    exact put_sound sx m2 rp (h1.from f2) fun e3 w3 m3 f3 h3 => h3 σ w3 m3 (.refl _)
theorem vs_put {x : Str} {py ps : Pos} (i : Nat) (hx : VE X ρ W b fx) (hv : VE X ρ W a fv) (hN : X.N[i]? = some x := by rfl) (hvs : Vis X.env.scope x := by first | exact Or.inl rfl | exact Or.inr (Or.inl rfl) | exact Or.inr (Or.inr rfl)) (hd : (x == ("__debug__" : Str)) = false := by decide)
    (hcd : (x == ("__classdict__" : Str)) = false := by decide) (hs : swapsWithSole [.Subscript (.Name x py) b ps] a pos.line X.env = pure false := by rfl) (hw : swappedStores [.Subscript (.Name x py) b ps] a X.env = pure none := by rfl)
    (h1 : (assignEach [.Subscript (.Name x py) b ps] X.env).map (·.2) = [assign (.Subscript (.Name x py) b ps) X.env] := by rfl)
    (ha : ∀ v, assign (.Subscript (.Name x py) b ps) X.env v = (do
      let ov ← holding [v] (eval (.Name x py) X.env)
      let iv ← holding [v, ov] (eval b X.env)
      standAt ps
      holding [v, ov, iv] (setItem ov iv v)
      release [v, ov, iv] []) := by intro _; rfl) : VS X ρ W pn (.Assign [.Subscript (.Name x py) b ps] a pos) (sPut i fx fv) := by
  obtain ⟨t, p, s⟩ := hx
  obtain ⟨t2, p2, s2⟩ := hv
  exact ⟨_, ps_asg p2 (pg_sub (pe_var hN hvs hd hcd) p set_list ha) hs hw h1, ss_put s2 s⟩
theorem ss_put2 {te : TA} {ti tj : TE} {i j : Nat} (sv : SD C W te fd) (sx : SE C W ti fx) (sy : SE C W tj fy) : SS C W pn (tAsg (tTup te) (gTup C.K 2 (gCons (gSub (tVar i) ti rSetL) (gCons (gSub (tVar j) tj rSetL) gNil)))) (sPut2 i fx j fy fd) := fun π e σ w D hp m h => by
  refine sv π e σ w _ m (h.bnd fun ds e1 vs w1 m1 f1 k1 h1 => ?_)
  split at h1
  · rename_i d1 d2
    refine ⟨by rw [k1.length]; show 2 ≤ sizeLine; decide, fun p hp => ?_⟩
    obtain ⟨w2, m2, f2, eH, k2⟩ := mk_tup m1 hp k1
    have hT : w2.H p = some (.tup vs) := by rw [eH]; exact upd_same
    rw [← eH]
    cases k1 with
    | cons r1 k1 =>
      cases k1 with
      | cons r2 k1 =>
        cases k1
        refine ⟨p, _, rfl, .of hT, rfl, _, _, rfl, ?_⟩
        refine put_sound sx m2 (r1.mono f2.g) (h1.from (f1.trans f2)) fun e3 w3 m3 f3 h3 => ⟨_, _, rfl, ?_⟩
        exact put_sound sy m3 (r2.mono (f2.g.trans f3.g)) h3 fun e4 w4 m4 f4 h4 => ⟨rfl, h4 σ w4 m4 (.refl _)⟩
  · exact h1.elim
theorem vs_put2 {x y : Str} {px py ps pt p2 pp : Pos} {b2 a2 : Expr} {kt k2} (V0 : Vx X W) (i j : Nat) (hx : VE X ρ W b fx) (hy : VE X ρ W b2 fy) (hv : VD X ρ W [a, a2] fd) (hN : X.N[i]? = some x := by rfl) (hN2 : X.N[j]? = some y := by rfl)
    (hvs : Vis X.env.scope x := by first | exact Or.inl rfl | exact Or.inr (Or.inl rfl) | exact Or.inr (Or.inr rfl)) (hvs2 : Vis X.env.scope y := by first | exact Or.inl rfl | exact Or.inr (Or.inl rfl) | exact Or.inr (Or.inr rfl)) (hd : (x == ("__debug__" : Str)) = false := by decide) (hd2 : (y == ("__debug__" : Str)) = false := by decide)
    (hcd : (x == ("__classdict__" : Str)) = false := by decide) (hcd2 : (y == ("__classdict__" : Str)) = false := by decide)
    (hs : swapsWithSole [.Tuple [.Subscript (.Name x px) b ps, .Subscript (.Name y py) b2 p2] kt pt] (.Tuple [a, a2] k2 pp) pos.line X.env = pure false := by rfl) (hw : swappedStores [.Tuple [.Subscript (.Name x px) b ps, .Subscript (.Name y py) b2 p2] kt pt] (.Tuple [a, a2] k2 pp) X.env = pure none := by rfl)
    (h1 : (assignEach [.Tuple [.Subscript (.Name x px) b ps, .Subscript (.Name y py) b2 p2] kt pt] X.env).map (·.2) = [assign (.Tuple [.Subscript (.Name x px) b ps, .Subscript (.Name y py) b2 p2] kt pt) X.env] := by rfl)
    (ha : ∀ v, assign (.Subscript (.Name x px) b ps) X.env v = (do
      let ov ← holding [v] (eval (.Name x px) X.env)
      let iv ← holding [v, ov] (eval b X.env)
      standAt ps
      holding [v, ov, iv] (setItem ov iv v)
      release [v, ov, iv] []) := by intro _; rfl)
    (ha2 : ∀ v, assign (.Subscript (.Name y py) b2 p2) X.env v = (do
      let ov ← holding [v] (eval (.Name y py) X.env)
      let iv ← holding [v, ov] (eval b2 X.env)
      standAt p2
      holding [v, ov, iv] (setItem ov iv v)
      release [v, ov, iv] []) := by intro _; rfl)
    (hn : (assignEach [.Subscript (.Name x px) b ps, .Subscript (.Name y py) b2 p2] X.env).length = 2 := by rfl) (hst : (assignEach [.Subscript (.Name x px) b ps, .Subscript (.Name y py) b2 p2] X.env).findIdx? (·.1) = none := by rfl)
    (hs1 : (assignEach (.Subscript (.Name x px) b ps :: [.Subscript (.Name y py) b2 p2]) X.env).map (·.2) = assign (.Subscript (.Name x px) b ps) X.env :: (assignEach [.Subscript (.Name y py) b2 p2] X.env).map (·.2) := by rfl)
    (hs2 : (assignEach (.Subscript (.Name y py) b2 p2 :: []) X.env).map (·.2) = assign (.Subscript (.Name y py) b2 p2) X.env :: (assignEach [] X.env).map (·.2) := by rfl) :
    VS X ρ W pn (.Assign [.Tuple [.Subscript (.Name x px) b ps, .Subscript (.Name y py) b2 p2] kt pt] (.Tuple [a, a2] k2 pp) pos) (sPut2 i fx j fy fd) := by
  obtain ⟨t, p, s⟩ := hx
  obtain ⟨t3, p3, s3⟩ := hy
  obtain ⟨t4, p4, s4⟩ := hv
  exact ⟨_, ps_asg (pe_tup p4) (pg_tup V0.calm (pgs_cons (pg_sub (pe_var hN hvs hd hcd) p set_list ha) (pgs_cons (pg_sub (pe_var hN2 hvs2 hd2 hcd2) p3 set_list ha2) pgs_nil hs2) hs1) hn hst) hs hw h1, ss_put2 s4 s s3⟩
/-- a, b = u, v: names of the frame -/
theorem vs_par {x y : Str} {px py pt p2 : Pos} {a2 : Expr} {kt k2} (V0 : Vx X W) (i j : Nat) (hv : VD X ρ W [a, a2] fd) (hi : X.N[i]? = some x := by rfl) (hj : X.N[j]? = some y := by rfl) (hij : i ≠ j := by decide) (hp : i ∉ pn := by decide) (hq : j ∉ pn := by decide)
    (hx : X.env.scope.names.lookup x = some .local := by rfl) (hy : X.env.scope.names.lookup y = some .local := by rfl)
    (hw : swappedStores [.Tuple [.Name x px, .Name y py] kt pt] (.Tuple [a, a2] k2 p2) X.env = pure (some [x, y]) := by rfl)
    (hs : swapsWithSole [.Tuple [.Name x px, .Name y py] kt pt] (.Tuple [a, a2] k2 p2) pos.line X.env = pure false := by rfl) :
    VS X ρ W pn (.Assign [.Tuple [.Name x px, .Name y py] kt pt] (.Tuple [a, a2] k2 p2) pos) (sPar i j fd) := by
  obtain ⟨t, p, s⟩ := hv
  refine ⟨_, ps_par V0.calm V0.nd hi hj hij hx hy p hw hs, fun π e σ w D hpi m h => ?_⟩
  refine s π e σ w _ m (h.bnd fun ds e1 vs w1 m1 f1 k1 h1 => ?_)
  split at h1
  · cases k1 with
    | cons r1 k1 =>
      cases k1 with
      | cons r2 k1 =>
        cases k1
        obtain ⟨w2, m2, f2, eH2, eG2⟩ := bind_fr m1 (fun p hq' (z : p.1 = i) => hp (z ▸ hpi p hq')) r1
        obtain ⟨w3, m3, f3, eH3, _⟩ := bind_fr m2 (fun p hq' (z : p.1 = j) => hq (z ▸ hpi p hq')) (by rw [eG2]; exact r2)
        refine ⟨_, _, rfl, ?_⟩
        rw [← eH2, ← eH3]
        exact h1 _ w3 m3 ((f1.trans f2).trans f3)
  · exact h1.elim
/-- a target takes the value -/
theorem vs_tgt (V0 : Vx X W) (hg : VG X ρ pn tg ft) (he : VE X ρ W a fa) (hs : swapsWithSole [tg] a pos.line X.env = pure false := by rfl) (hw : swappedStores [tg] a X.env = pure none := by rfl)
    (h1 : (assignEach [tg] X.env).map (·.2) = [assign tg X.env] := by rfl) : VS X ρ W pn (.Assign [tg] a pos) (sTgt ft fa) := by
  obtain ⟨t, p, s⟩ := hg
  obtain ⟨t2, p2, s2⟩ := he
  refine ⟨_, ps_asg p2 p hs hw h1, fun π e σ w D hpi m h => ?_⟩
  refine s2 π e σ w _ m (h.bnd fun o1 e1 v1 w1 m1 f1 k1 h1 => ?_)
  cases q : fz e1 o1 with
  | none => rw [q] at h1; exact h1.elim
  | some pr =>
    rw [q] at h1
    obtain ⟨w2, m2, f2, eH, rp⟩ := fz_sound (e' := pr.2) m1 f1 k1 q
    simp only [Option.bind_some] at h1
    cases q2 : ft pr.1 pr.2 with
    | none => rw [q2] at h1; exact h1.elim
    | some e3 =>
      rw [q2] at h1
      rw [← eH]
      exact s π pr.2 σ w2 pr.1 v1 e3 _ hpi m2 rp q2 fun σ' w' m' f' eH' => h1 σ' w' m' (f2.trans f')
/-! ### augmented -/
def IpV (X : Cx) (op : Operator) (g : PyData → PyData → Option B) : Prop := ∃ r, PIp X op r ∧ ∀ (G H : Hp) x y dx dy z (Q : VK), Rq X.K G H x dx → Rq X.K G H y dy → g dx dy = some z → (∀ v d, z = .fr d → Rp X.K G v d → Q v H) → r x y H Q
theorem i_add : IpV X .Add (opI0 fun i j => i + j) := by
  refine ⟨_, ip_add, fun G H x y dx dy z Q hx hy hz k => ?_⟩
  unfold opI0 at hz
  split at hz
  · cases hz
    cases hx
    cases hy
    exact ⟨_, _, rfl, rfl, k _ _ rfl (.int _)⟩
  · cases hz
theorem ip_mul : PIp X .Mult (fun x y H Q => ∃ i j, x = .int i ∧ y = .int j ∧ IntMulOk i j ∧ Q (.int (i * j)) H) := by
  intro pins s σ H x y v u Q I r1 r2 h
  obtain ⟨i, j, e1, e2, hm, q⟩ := h
  subst e1; subst e2
  obtain ⟨t, rfl⟩ := r1
  obtain ⟨t', rfl⟩ := r2
  exact PySem.P.imul_int ⟨.int _, H, I.tok _, ⟨_, rfl⟩, q⟩ hm
theorem i_mul : IpV X .Mult (opI cMul fun i j => i * j) := by
  refine ⟨_, ip_mul, fun G H x y dx dy z Q hx hy hz k => ?_⟩
  unfold opI at hz
  split at hz
  · rename_i i j
    split at hz
    · rename_i hc
      cases hz
      cases hx
      cases hy
      exact ⟨_, _, rfl, rfl, CMul.ok (cMul_ok hc), k _ _ rfl (.int _)⟩
    · cases hz
  · cases hz
theorem vs_aug {op : Operator} {g : PyData → PyData → Option B} {x : Str} {pos' : Pos} (V0 : Vx X W) (i : Nat) (ho : IpV X op g) (he : VE X ρ W a fa) (hi : X.N[i]? = some x := by rfl) (hp : i ∉ pn := by decide) (hx : Loc X.env.scope x := by first | exact Or.inl rfl | exact Or.inr rfl)
    (hf : X.fn x = true ∨ X.env.scope.names.lookup x = some .local := by first | exact .inl rfl | exact .inr rfl) : VS X ρ W pn (.AugAssign (.Name x pos') op a pos) (sAug i g fa) := by
  obtain ⟨r, h1, h2⟩ := ho
  obtain ⟨t, p, s⟩ := he
  refine ⟨_, ps_aug V0.nd hi hx p h1 hf, fun π e σ w D hpi m h => ?_⟩
  unfold sAug at h
  split at h
  · rename_i d0 q0
    obtain ⟨v0, g1, g2⟩ := m.bok i _ q0
    refine ⟨v0, g1, s π e σ w _ m (h.bnd fun o1 e1 v1 w1 m1 f1 k1 h3 => ?_)⟩
    split at h3
    · rename_i d q1
      split at h3
      · rename_i z q2
        refine h2 w1.G w1.H v0 v1 d0 d _ _ ((g2.1.mono f1.g).rq m1.sub) (res_sound m1 k1 q1) q2 fun v d' ez rv => ?_
        cases ez
        obtain ⟨w2, m2, f2, eH, _⟩ := bind_fr m1 (fun p hq (z : p.1 = i) => hp (z ▸ hpi p hq)) rv
        rw [← eH]
        exact h3 _ w2 m2 (f1.trans f2)
      · exact h3.elim
    · exact h3.elim
  · exact h.elim
theorem get_list : PGet X (rIxL X.K) := by
  intro pins s σ H x y v u Q I rx ry h
  obtain ⟨p, xs, i, z, rfl, rfl, hq, he, q⟩ := h
  cases rx
  obtain ⟨t, rfl⟩ := ry
  obtain ⟨its, r, pl, hz⟩ := I.list hq
  obtain ⟨j, h1, h2, h3, h4, h5⟩ := atI_get he
  obtain ⟨w, ew, rw'⟩ := r.get h2
  have hl := r.length
  have hn := line63
  have fin : EP X pins σ Q w s := ⟨z, H, I, rw', q⟩
  by_cases h0 : 0 ≤ i
  · have hj : i.toNat = j := by
      rw [seqIndex_of h0 h5] at h1
      exact Option.some.inj h1
    exact wpAny_getItem_list pl.isList h0 (by omega) (by rw [hj]; simpa using ew) fin
  · have hj : (i + (its.toArray.size : Int)).toNat = j := by
      rw [seqIndex_neg (by omega) h4] at h1
      rw [List.size_toArray, ← hl]
      exact Option.some.inj h1
    exact wpAny_getItem_list_neg pl.isList (by omega) (by rw [List.size_toArray] <;> omega) (by omega) (by rw [hj]; simpa using ew) fin
theorem vs_augAt {op : Operator} {g : PyData → PyData → Option B} {x : Str} {py ps : Pos} (V0 : Vx X W) (i : Nat) (ho : IpV X op g) (hx : VE X ρ W b fx) (hv : VE X ρ W a fv) (hN : X.N[i]? = some x := by rfl) (hvs : Vis X.env.scope x := by first | exact Or.inl rfl | exact Or.inr (Or.inl rfl) | exact Or.inr (Or.inr rfl)) (hd : (x == ("__debug__" : Str)) = false := by decide)
    (hcd : (x == ("__classdict__" : Str)) = false := by decide) (ha : ∀ ov iv new, augStore b ov iv new = (do holding [new, ov, iv] (setItem ov iv new); release [new, ov, iv] []; pure .next) := by intros; rfl) :
    VS X ρ W pn (.AugAssign (.Subscript (.Name x py) b ps) op a pos) (sAugAt i g fx fv) := by
  obtain ⟨r, h1, h2⟩ := ho
  obtain ⟨t, p, s⟩ := hx
  obtain ⟨t2, p2, s2⟩ := hv
  refine ⟨_, ps_augS (pe_var hN hvs hd hcd) p get_list p2 h1 set_list ha, fun π e σ w D hpi m h => ?_⟩
  unfold sAugAt at h
  split at h
  · exact h.elim
  rename_i b0 q0
  obtain ⟨v0, g1, g2⟩ := m.bok i _ q0
  refine ⟨v0, g1, s π e σ w _ m (h.bnd fun o1 e1 v1 w1 m1 f1 k1 h3 => ?_)⟩
  split at h3
  case h_2 => exact h3.elim
  rename_i k ds q1 q2
  cases qj : ixN ds.length k with
  | none => rw [qj] at h3; exact h3.elim
  | some j =>
    cases qo : ds[j]? with
    | none => rw [qj] at h3; simp only [Option.bind_some, qo] at h3; exact h3.elim
    | some old =>
      rw [qj] at h3
      simp only [Option.bind_some, qo] at h3
      obtain ⟨p, xs, l1, l2, l3, l4, _⟩ := m1.mut (ds' := ds) q2
      rw [g1] at l1
      cases l1
      have rk := res_sound m1 k1 q1
      cases rk
      obtain ⟨vo, ho1, ho2⟩ := l4.get qo
      refine ⟨p, xs, k, vo, rfl, rfl, .of l2, by unfold atI; rw [l4.length, qj]; exact ho1, ?_⟩
      refine s2 π e1 σ w1 _ m1 ((h3.from f1).bnd fun o2 e2 v2 w2 m2 f2 k2 h4 => ?_)
      split at h4
      case h_2 => exact h4.elim
      rename_i d ds2 q3 q4
      cases q5 : g old d with
      | none => rw [q5] at h4; exact h4.elim
      | some z =>
        rw [q5] at h4
        simp only [Option.bind_some] at h4
        refine h2 w2.G w2.H vo v2 old d _ _ ((ho2.mono f2.g).rq m2.sub) (res_sound m2 k2 q3) q5 fun v d' ez rv => ?_
        subst ez
        dsimp only at h4
        cases q6 : ixN ds2.length k with
        | none => rw [q6] at h4; exact h4.elim
        | some j2 =>
          rw [q6] at h4
          obtain ⟨p', xs', n1, n2, n3, n4, n5⟩ := m2.mut (ds' := ds2.set j2 d') q4
          rw [g1] at n1
          cases n1
          obtain ⟨m3, f3⟩ := n5 (xs'.set j2 v) (RpAll.set rv j2 n4)
          exact ⟨_, xs', k, j2, rfl, rfl, n2, by rw [n4.length]; exact q6, h4 σ _ m3 (f2.trans f3)⟩
end
end VL

set_option maxRecDepth 100000
/-! VL11: isinstance, the script. -/
namespace VL
open PySem L2
/-- the built-in types that are asked for -/
inductive Ty where
  | int | bool | str | list | tuple | dict
def Ty.nm : Ty → String
  | .int => "int" | .bool => "bool" | .str => "str" | .list => "list" | .tuple => "tuple" | .dict => "dict"
def tyN : PyData → String
  | .none => "NoneType"
  | .bool _ => "bool"
  | .int _ => "int"
  | .str _ => "str"
  | .list _ => "list"
  | .tuple _ => "tuple"
  | .dict _ => "dict"
def isD : Ty → PyData → Bool
  | .int, .int _ => true
  | .int, .bool _ => true
  | .bool, .bool _ => true
  | .str, .str _ => true
  | .list, .list _ => true
  | .tuple, .tuple _ => true
  | .dict, .dict _ => true
  | _, _ => false
def fIsi (T : Ty) (fa : FE) : FE := fun e => bnd (fa e) fun o e1 => (res e1 o).bind fun d => okD (.bool (isD T d)) e1
theorem kit_is (T : Ty) : ∀ d, kitB (tyN d) T.nm = some (isD T d) := by
  have h : ∀ T : Ty, kitB "NoneType" T.nm = some false ∧ kitB "bool" T.nm = some (isD T (.bool true)) ∧ kitB "int" T.nm = some (isD T (.int 0)) ∧ kitB "str" T.nm = some (isD T (.str "")) ∧ kitB "list" T.nm = some (isD T (.list [])) ∧ kitB "tuple" T.nm = some (isD T (.tuple [])) ∧ kitB "dict" T.nm = some (isD T (.dict [])) := by
    intro T
    cases T <;> decide +kernel
  obtain ⟨h1, h2, h3, h4, h5, h6, h7⟩ := h T
  intro d
  cases d with
  | none => exact h1.trans (by cases T <;> rfl)
  | bool b => exact h2.trans (by cases T <;> rfl)
  | int b => exact h3.trans (by cases T <;> rfl)
  | str b => exact h4.trans (by cases T <;> rfl)
  | list b => exact h5.trans (by cases T <;> rfl)
  | tuple b => exact h6.trans (by cases T <;> rfl)
  | dict b => exact h7.trans (by cases T <;> rfl)
section
variable {X : Cx} {ρ : Nat → Res} {W : WX} {pn : List Nat} {a b c o tg : Expr} {es : List Expr} {pos p p2 apos cpos : Pos} {fa fb fc fx fv fy : FE} {fd : FD} {ft : FG} {as_ : FA} {C : Cc} {π : List (Nat × V)} {e e1 e2 : Env} {σ : St} {w w0 w1 w2 : WS}
theorem Rq.ty {K : PySem.W.Frag} {G H : Hp} {v : V} {d : PyData} (r : Rq K G H v d) (s : Same G H) : TyX K H v (.type (tyN d)) := by
  cases d with
  | none => cases r; exact .base .non
  | bool b => cases r; exact .base (.bl b)
  | int b => cases r; exact .base (.int b)
  | str b => cases r; exact .base (.str b)
  | list b => obtain ⟨a, xs, rfl, h, _⟩ := r; exact .base (.lst h)
  | tuple b => obtain ⟨a, xs, rfl, h, _⟩ := r; exact .base (.tup (s _ _ h))
  | dict b => obtain ⟨a, xs, rfl, h, _⟩ := r; exact .base (.dK h)
theorem ve_isi (T : Ty) {x : Str} (ha : VE X ρ W a fa) (hm : X.mg "isinstance" = none) (hmx : X.mg x = none) (hv : bootBuiltins x = some (.type T.nm)) (hg : Gl X "isinstance" := by rfl) (hgx : Gl X x := by rfl) (hn : x ≠ "__name__" := by decide) (hdb : (x == ("__debug__" : Str)) = false := by decide)
    (he : starEach (a :: [.Name x p2]) X.env = (false, eval a X.env) :: starEach [.Name x p2] X.env := by rfl) (he2 : starEach (.Name x p2 :: []) X.env = (false, eval (.Name x p2) X.env) :: starEach [] X.env := by rfl) (hpl : (backTo pos (starEach [.Name x p2] X.env)).any (·.1) = false := by rfl) :
    VE X ρ W (.Call (.Name "isinstance" p) [a, .Name x p2] [] pos) (fIsi T fa) := by
  obtain ⟨t, pa, s⟩ := ha
  refine ⟨_, pe_callB call_isi hg hm PyProof.Rows.boot_isinstance (pa_cons pa (pa_cons (pe_bltn hgx hmx hv (v := .ty T.nm) rfl hn hdb) pa_nil he2) he) (by decide) (by decide) he hpl, fun π e σ w Q m h => ?_⟩
  refine s π e σ w _ m (h.bnd fun o1 e1 v1 w1 m1 f1 k1 h1 => ?_)
  have h3 := h1.from f1
  cases q1 : res e1 o1 with
  | none => rw [q1] at h3; exact h3.elim
  | some d1 =>
    rw [q1] at h3
    simp only [Option.bind_some] at h3
    exact ⟨v1, .ty T.nm, .type (tyN d1), .type T.nm, isD T d1, rfl, .ty _, (res_sound m1 k1 q1).ty m1.sub, kit_ty (kit_is T d1), h3 _ w1 m1 (.refl _) (.fr (.bl _))⟩
/-! ### the script -/
def bOf (e : Env) : O → Option B
  | .s i => at? e i
  | .b b => some b
theorem bOf_sound {o : O} {v : V} {b : B} (m : Mt C π e σ w) (h : OOk C σ w0 w o v) (hr : bOf e o = some b) : ∃ fp, BOk C w.G w.H b v fp := by
  cases o with
  | s i =>
    have hv : σ[i]? = some (some v) := h
    obtain ⟨u, h1, h2⟩ := m.bok i b hr
    rw [hv] at h1
    cases h1
    exact ⟨_, h2⟩
  | b b' =>
    cases hr
    obtain ⟨fp, h1, h2⟩ := h
    exact ⟨fp, h1⟩
def fScLen (fa : FE) : FE := fun e => bnd (fa e) fun o e1 => match bOf e1 o with
  | some (.sc ns) => okD (.int ns.length) e1
  | _ => none
def fScIx (fa fb : FE) : FE := fun e => bnd (fa e) fun o e1 => bnd (fb e1) fun o2 e2 => match bOf e2 o, res e2 o2 with
  | some (.sc ns), some (.int i) => (atI ns i).bind fun n => okD (.int n) e2
  | _, _ => none
def fScSl (fa : FE) (fl fh : FO) : FE := fun e => bnd (fa e) fun o e1 => bnd (fl e1) fun l e2 => bnd (fh e2) fun h e3 => match bOf e3 o with
  | some (.sc ns) => some (.ok (.b (.ow ((cutD ns l h).map .int))) e3)
  | _ => none
theorem ve_scLen (ha : VE X ρ W a fa) (hm : X.mg "len" = none) (hv : bootBuiltins "len" = some (.builtin "len")) (hg : Gl X "len" := by rfl)
    (he : starEach (a :: []) X.env = (false, eval a X.env) :: starEach [] X.env := by rfl) (hpl : (backTo pos (starEach [] X.env)).any (·.1) = false := by rfl) : VE X ρ W (.Call (.Name "len" p) [a] [] pos) (fScLen fa) := by
  obtain ⟨t, pa, s⟩ := ha
  refine ⟨_, pe_callB call_len_seq hg hm hv (pa_cons pa pa_nil he) (by decide) (by decide) he hpl, fun π e σ w Q m h => ?_⟩
  refine s π e σ w _ m (h.bnd fun o1 e1 v1 w1 m1 f1 k1 h1 => ?_)
  have h3 := h1.from f1
  split at h3
  · rename_i ns q1
    obtain ⟨fp, ⟨p, rfl, hq⟩, _⟩ := bOf_sound m1 k1 q1
    refine ⟨p, _, rfl, .inl (m1.sub.seq hq), ?_⟩
    rw [List.length_map]
    exact h3 _ w1 m1 (.refl _) (.fr (.int _))
  · exact h3.elim
theorem at_ints {ns : List Int} {i n : Int} (h : atI ns i = some n) : atI (ns.map V.int) i = some (.int n) := by
  unfold atI at h ⊢
  rw [List.length_map]
  cases q : ixN ns.length i with
  | none => rw [q] at h; cases h
  | some j =>
    rw [q] at h
    simp only [Option.bind_some] at h ⊢
    rw [List.getElem?_map, h]
    rfl
theorem ve_scIx (ha : VE X ρ W a fa) (hb : VE X ρ W b fb) (hs : PlainIx b := by exact fun _ _ => rfl) : VE X ρ W (.Subscript a b pos) (fScIx fa fb) := by
  obtain ⟨t, p, s⟩ := ha
  obtain ⟨t2, p2, s2⟩ := hb
  refine ⟨_, pe_ix ix_list p p2 hs, fun π e σ w Q m h => ?_⟩
  refine s π e σ w _ m (h.bnd fun o1 e1 v1 w1 m1 f1 k1 h1 => ?_)
  refine s2 π e1 σ w1 _ m1 ((h1.from f1).bnd fun o2 e2 v2 w2 m2 f2 k2 h2 => ?_)
  have h3 := h2.from f2
  split at h3
  · rename_i ns i q1 q2
    obtain ⟨fp, ⟨p, rfl, hq⟩, _⟩ := bOf_sound m2 (k1.step f2) q1
    have r2 := res_sound m2 k2 q2
    cases r2
    cases q3 : atI ns i with
    | none => rw [q3] at h3; exact h3.elim
    | some n =>
      rw [q3] at h3
      simp only [Option.bind_some] at h3
      exact ⟨p, _, i, .int n, rfl, rfl, m2.sub.seq hq, at_ints q3, h3 _ w2 m2 (.refl _) (.fr (.int _))⟩
  · exact h3.elim
theorem ve_scSl {lo hi : Option Expr} {fl fh : FO} {p2 : Pos} (ha : VE X ρ W a fa) (hl : VO X ρ W lo fl) (hh : VO X ρ W hi fh) : VE X ρ W (.Subscript a (.Slice lo hi none p2) pos) (fScSl fa fl fh) := by
  obtain ⟨t, p, s⟩ := ha
  obtain ⟨t1, p1, s1⟩ := hl
  obtain ⟨t2, p2', s2⟩ := hh
  refine ⟨_, pe_slice sl_list p p1 p2', fun π e σ w Q m h => ?_⟩
  refine s π e σ w _ m (h.bnd fun o1 e1 v1 w1 m1 f1 k1 h1 => ?_)
  refine s1 π e1 σ w1 _ m1 ((h1.from f1).bnd fun l e2 l' w2 m2 f2 k2 h2 => ?_)
  subst k2
  refine s2 π e2 σ w2 _ m2 ((h2.from f2).bnd fun u e3 u' w3 m3 f3 k3 h3 => ?_)
  subst k3
  have h4 := h3.from f3
  split at h4
  · rename_i ns q1
    obtain ⟨fp, ⟨p, rfl, hq⟩, _⟩ := bOf_sound m3 ((k1.step f2).step f3) q1
    refine ⟨p, _, rfl, m3.sub.seq hq, fun r hr => ?_⟩
    have e1 : cutV (ns.map V.int) l u = (cutD ns l u).map V.int := by
      unfold cutD cutV
      rw [List.length_map, ← List.map_drop, ← List.map_take]
    rw [e1]
    obtain ⟨m5, f5, k5⟩ := mk_lst (es := (cutD ns l u).map .int) m3 hr (rp_ints _)
    exact h4 _ _ m5 f5 (k5.base ((f1.trans f2).trans f3))
  · exact h4.elim
end
end VL

set_option maxRecDepth 100000
/-! VL12: defs by name, the law's end. -/
namespace VL
open PySem L2
theorem b_len : bootBuiltins "len" = some (.builtin "len") := by decide +kernel
theorem b_max : bootBuiltins "max" = some (.builtin "max") := by decide +kernel
theorem b_min : bootBuiltins "min" = some (.builtin "min") := by decide +kernel
theorem b_sum : bootBuiltins "sum" = some (.builtin "sum") := by decide +kernel
theorem b_abs : bootBuiltins "abs" = some (.builtin "abs") := by decide +kernel
theorem b_sorted : bootBuiltins "sorted" = some (.builtin "sorted") := by decide +kernel
theorem b_repr : bootBuiltins "repr" = some (.builtin "repr") := by decide +kernel
theorem b_int : bootBuiltins "int" = some (.type "int") := by decide +kernel
theorem b_bool : bootBuiltins "bool" = some (.type "bool") := by decide +kernel
theorem b_str : bootBuiltins "str" = some (.type "str") := by decide +kernel
theorem b_list : bootBuiltins "list" = some (.type "list") := by decide +kernel
theorem b_tuple : bootBuiltins "tuple" = some (.type "tuple") := by decide +kernel
theorem b_dict : bootBuiltins "dict" = some (.type "dict") := by decide +kernel
theorem b_set : bootBuiltins "set" = some (.type "set") := by decide +kernel
theorem sg_t2 {C : Cc} {pn : List Nat} {i j : Nat} (hp : i ∉ pn) (hq : j ∉ pn) : SG C pn (gTup C.K 2 (gCons (gName i) (gCons (gName j) gNil))) (gT2 i j) := fun π e σ w d z e' Q hpi m r hg h => by
  unfold gT2 at hg
  split at hg
  · cases hg
    obtain ⟨q, xs, rfl, g1, g2⟩ := rp_tup r
    cases g2 with
    | cons r1 g3 =>
      cases g3 with
      | cons r2 g4 =>
        cases g4
        obtain ⟨w1, m1, f1, eH1, eG1⟩ := bind_fr m (fun p hq (z : p.1 = i) => hp (z ▸ hpi p hq)) r1
        obtain ⟨w2, m2, f2, eH2, _⟩ := bind_fr m1 (fun p hq' (z : p.1 = j) => hq (z ▸ hpi p hq')) (by rw [eG1]; exact r2)
        refine ⟨q, _, rfl, .of (m.sub _ _ g1), rfl, _, _, rfl, _, _, rfl, rfl, ?_⟩
        rw [← eH1, ← eH2]
        exact h _ w2 m2 (f1.trans f2) (eH2.trans eH1)
  · cases hg
section
variable {X : Cx} {ρ : Nat → Res} {W : WX} {pos : Pos}
/-- a number of the module -/
theorem ve_gint {x : Str} {i : Int} (hm : ∃ t, X.mg x = some (.int i t)) (hg : Gl X x := by rfl) (hd : (x == ("__debug__" : Str)) = false := by decide) : VE X ρ W (.Name x pos) (fC (.int i)) := by
  obtain ⟨t, h⟩ := hm
  exact ve_glob h (v := .int i) ⟨t, rfl⟩ (fun _ => .int i) hg hd
end
section
variable {P : Program} {w : World} {K : PySem.W.Frag} {mg : Str → Option Value} {base : Heap} {ρ : Nat → Res}
/-- the module's def x computes F; the parameters at ms are changed -/
structure CalK (P : Program) (w : World) (K : PySem.W.Frag) (mg : Str → Option Value) (base : Heap) (ρ : Nat → Res) (x : Str) (n : Nat) (ms : List Nat) (F : Fn) (k : Nat) : Prop where
  ex : ∃ f fd ps, FnOk P w K mg base (L2.CX P w) k f fd ps (spV ⟨K, mg, ρ⟩ n ms F) ∧ mg x = some (.ref f) ∧ PySem.W.keepIn K (.ref f) = true ∧ Binds K fd ps []
theorem CalK.c {X : Cx} {x : Str} {n : Nat} {ms : List Nat} {F : Fn} {k : Nat} (c : CalK X.prog X.w X.K X.mg X.base ρ x n ms F k) : Cal X ρ x n ms F k := ⟨c.ex⟩
theorem cal_mk {x qual : Str} {params : Arguments} {body : List Stmt} {scope : Scope} {f : Addr} {fd : FuncData} {N ps : List Str} {k : Nat} {g : FS} (ms : List Nat) (F : FunD K x qual params body scope [] [] f fd) (gm : mg x = some (.ref f)) (S : FnScope N ps scope) (hpn : ps.length ≤ N.length)
    (hb : ∀ (kV doc pm : Value) (an : Option Addr) (cdv ct : Value) (us : List Value), us.length = ps.length → bindArgs (PySem.W.fnOf x qual params body scope .none kV doc pm an cdv ct) ⟨us, []⟩ = pure (ps.zip us))
    (hbody : ∀ (cdv : Value) (A : Around) (outer : List PySem.Env) (s : Shared) (H : Hp) (E : XK), Room k (A.deeper (PyProof.Rows.envOfC qual scope s.heap.objs.size f cdv)) →
      Vx (cxOf (L2.CX P w) P w K mg base N qual scope f cdv A outer s H E) (fun cls d _ H => E cls d H) → VSs (cxOf (L2.CX P w) P w K mg base N qual scope f cdv A outer s H E) ρ (fun cls d _ H => E cls d H) ms body g) (hk : 1 ≤ k) :
    CalK P w K mg base ρ x ps.length ms (runF g N.length) (k + 1) := ⟨f, fd, ps, fn_okV ms F S hpn hbody hk, gm, F.kp, F.bindsN hb⟩
theorem xc_ok {h : Heap} {x : Str} (KX : K.In h) (G : h.Ns mainGlobals mg) (c : (He.Fa.exc x).ok K = true) (g : (He.Fa.glo x).ok K = true) : XC K mg x := by
  obtain ⟨h1, h2, h3, h4⟩ := He.exc_ok c
  exact ⟨_, He.glo_ok KX G g, h1, h2, h3, h4⟩
/-- nothing -/
def R0 : Res := ⟨fun _ _ _ _ _ _ => False, fun h _ _ => h.elim, fun h => h.elim⟩
theorem fn_mkV {x qual : Str} {params : Arguments} {body : List Stmt} {scope : Scope} {f : Addr} {fd : FuncData} {N ps : List Str} {k : Nat} {g : FS} (ms : List Nat) (F : FunD K x qual params body scope [] [] f fd) (S : FnScope N ps scope) (hpn : ps.length ≤ N.length)
    (hbody : ∀ (cdv : Value) (A : Around) (outer : List PySem.Env) (s : Shared) (H : Hp) (E : XK), Room k (A.deeper (PyProof.Rows.envOfC qual scope s.heap.objs.size f cdv)) →
      Vx (cxOf (L2.CX P w) P w K mg base N qual scope f cdv A outer s H E) (fun cls d _ H => E cls d H) → VSs (cxOf (L2.CX P w) P w K mg base N qual scope f cdv A outer s H E) ρ (fun cls d _ H => E cls d H) ms body g) (hk : 1 ≤ k) :
    FnOk P w K mg base (L2.CX P w) (k + 1) f fd ps (spV ⟨K, mg, ρ⟩ ps.length ms (runF g N.length)) := fn_okV ms F S hpn hbody hk
/-- a law's end, by facts of the head -/
theorem walk_ofW {l : PySem.W.OpenLaw} {n k : Nat} {q : Program} {loose : List Str} {XP : (Str → Option Value) → Heap → Prop} {YP : World → Heap → Prop} {d : DefRec} {x : Str}
    (hn : l.most = some n) (hn2 : n ≤ sizeLine) (hdf : d.params.defaults = []) (hr : Room k callerA)
    (F : ∀ (w : World) (mg : Str → Option Value) (fa : Addr) (h : Heap), YP w h → h.Ns mainGlobals mg → mg d.name = some (.ref fa) →
      ∃ (K : PySem.W.Frag) (fd : FuncData) (sp : Sp), K.In h ∧ (∀ (s : Shared) (u : Value), PySem.BindsTo s fd ⟨[u], []⟩ [(x, u)]) ∧
        (∀ (H : Hp) (a : Addr) (ns : List Int), ns.length ≤ n → Only H → SqL K H a (ns.map V.int) → sp [.ref a] H (fun v _ => v = .bl true) fun _ _ _ => False) ∧
        ∀ base : Heap, K.In base → base.Ns mainGlobals mg → FnOk l.prog w K mg base (L2.CX l.prog w) k fa fd [x] sp) :
    PySem.W.WalkO q loose XP YP l.row.toRowW d [] (fun f vs => PySem.call f vs) := by
  refine Att.attach_call hn hdf fun w s₀ s₁ mg mb fa o pm cd doc a vs ns G Y ho hd hcd hmg hobj hints hlen hg => ?_
  obtain ⟨K, fd, sp, KX, hb, hsp, hF⟩ := F w mg fa _ Y G.T.g hmg
  exact law_call KX G.T.g G.T.b G.T.builtins G.T.nolimit hg hobj hints (Nat.le_trans hlen hn2) hr hF hb (fun H hO hS => hsp H a ns hlen hO hS) fun H e s' => fun ⟨_, _, _, _, _, _, _, _, _, _, _, _, h⟩ => h
/-- the law's answer -/
theorem law_end {F : Fn} {a : Addr} {ns : List Int} {H : Hp} (hS : SqL K H a (ns.map V.int)) (hF : ∃ e, F [.sc ns] = some (.ret (.fr (.bool true)) e)) : spV ⟨K, mg, ρ⟩ 1 [] F [.ref a] H (fun v _ => v = .bl true) (fun _ _ _ => False) := by
  obtain ⟨e, hF⟩ := hF
  refine ⟨rfl, [.sc ns], ⟨H, H, fun _ _ => False⟩, rfl, ⟨rfl, Same.refl _, fun i b q => ?_, fun i q a z => z, fun i j a z _ => z.elim, fun p h => by cases h⟩, ?_⟩
  · match i, q with
    | 0, q =>
      cases q
      exact ⟨_, rfl, ⟨a, rfl, hS⟩, fun _ z => z⟩
    | i + 1, q => exact absurd q (by unfold at?; simp)
  · unfold PostF
    rw [hF]
    intro v w' m f k
    obtain ⟨fp, k1, k2⟩ := k
    cases k1.1
    rfl
end
end VL

set_option maxRecDepth 100000
/-! VL13: a deck: a list of a list of threes, and a number; each draw changes it. -/
namespace VL
open PySem L2
section
variable {C : Cc} {π : List (Nat × V)} {e : VL.Env} {σ : St} {w : WS}
/-- a resource changed in its own places -/
theorem Mt.rsmut {i k : Nat} {d d' : PyData} {v : V} {H' : Hp} (m : Mt C π e σ w) (h : at? e i = some (.rs k d)) (hv : σ[i]? = some (some v)) (hr : (C.rho k).rep C.K w.G H' v d' (w.fp i)) (hH : ∀ a, ¬ w.fp i a → H' a = w.H a) :
    Mt C π (e.set i (some (.rs k d'))) σ { w with H := H' } ∧ Frm w { w with H := H' } := by
  have own := (C.rho k).own hr
  refine ⟨⟨by rw [List.length_set]; exact m.len, fun a o q => ?_, fun j b q => ?_, fun j q a z => ?_, m.dis, m.pin⟩, ⟨Same.refl _, fun a o q n => ⟨(hH a (n i)).trans q, rfl, n⟩, fun a q => ?_⟩⟩
  · have hn : ¬ w.fp i a := fun z => by
      have := (own a z).1
      rw [q] at this
      cases this
    exact (hH a hn).trans (m.sub a o q)
  · by_cases hj : i = j
    · subst hj
      rw [at_set_same h] at q
      cases q
      exact ⟨v, hv, hr⟩
    · rw [at_set_ne hj] at q
      obtain ⟨u, k1, k2⟩ := m.bok j b q
      refine ⟨u, k1, k2.mono (Same.refl _) fun a ha => ⟨hH a fun z => hj (m.dis i j a z ha), rfl⟩⟩
  · by_cases hj : i = j
    · subst hj
      rw [at_set_same h] at q
      cases q
    · rw [at_set_ne hj] at q
      exact m.non j q a z
  · by_cases z : w.fp i a
    · obtain ⟨_, o, ho⟩ := own a z
      have q' : H' a = none := q
      rw [ho] at q'
      cases q'
    · exact (hH a z).symm.trans q
end
/-! ### the deck -/
abbrev Pl := Int × Int × Int
def encP (p : Pl) : PyData := .list [.int p.1, .int p.2.1, .int p.2.2]
def encD (ps : List Pl) (i : Int) : PyData := .list [.list (ps.map encP), .int i]
def decP : PyData → Option Pl
  | .list [.int a, .int b, .int c] => some (a, b, c)
  | _ => none
def decPs : List PyData → Option (List Pl)
  | [] => some []
  | d :: ds => (decP d).bind fun p => (decPs ds).map (p :: ·)
def decD : PyData → Option (List Pl × Int)
  | .list [.list ds, .int i] => (decPs ds).map fun ps => (ps, i)
  | _ => none
theorem decPs_enc : ∀ ps : List Pl, decPs (ps.map encP) = some ps
  | [] => rfl
  | p :: ps => by
    show ((decPs (ps.map encP)).map (p :: ·)) = some (p :: ps)
    rw [decPs_enc ps]
    rfl
theorem decD_enc (ps : List Pl) (i : Int) : decD (encD ps i) = some (ps, i) := by
  show (decPs (ps.map encP)).map (fun ps => (ps, i)) = some (ps, i)
  rw [decPs_enc]
  rfl
def v3 (p : Pl) : List V := [.int p.1, .int p.2.1, .int p.2.2]
structure DkAt (H : Hp) (p0 p1 : Addr) (as : List Addr) (ps : List Pl) (i : Int) : Prop where
  top : H p0 = some (.lst [.ref p1, .int i])
  mid : H p1 = some (.lst (as.map .ref))
  len : as.length = ps.length
  at_ : ∀ (j : Nat) (a : Addr), as[j]? = some a → ∃ x, ps[j]? = some x ∧ H a = some (.lst (v3 x))
  nd : (p0 :: p1 :: as).Nodup
def DK : Res where
  rep := fun _ G H v d fp => ∃ p0 p1 as ps i, v = .ref p0 ∧ d = encD ps i ∧ DkAt H p0 p1 as ps i ∧ (∀ a, fp a ↔ a ∈ p0 :: p1 :: as) ∧ ∀ a ∈ p0 :: p1 :: as, G a = none
  frame := by
    rintro K G H G' H' v d fp ⟨p0, p1, as, ps, i, rfl, rfl, D, hf, hG⟩ s k
    refine ⟨p0, p1, as, ps, i, rfl, rfl, ⟨?_, ?_, D.len, fun j a ha => ?_, D.nd⟩, hf, fun a ha => ?_⟩
    · rw [(k p0 ((hf _).mpr (by simp))).1]; exact D.top
    · rw [(k p1 ((hf _).mpr (by simp))).1]; exact D.mid
    · obtain ⟨x, h1, h2⟩ := D.at_ j a ha
      exact ⟨x, h1, by rw [(k a ((hf _).mpr (by simp [List.mem_of_getElem? ha]))).1]; exact h2⟩
    · rw [(k a ((hf _).mpr ha)).2]; exact hG a ha
  own := by
    rintro K G H v d fp ⟨p0, p1, as, ps, i, rfl, rfl, D, hf, hG⟩ a ha
    have ha' := (hf a).mp ha
    refine ⟨hG a ha', ?_⟩
    rcases List.mem_cons.mp ha' with rfl | h
    · exact ⟨_, D.top⟩
    · rcases List.mem_cons.mp h with rfl | h
      · exact ⟨_, D.mid⟩
      · obtain ⟨j, hj, rfl⟩ := List.mem_iff_getElem.mp h
        obtain ⟨x, _, h2⟩ := D.at_ j as[j] (List.getElem?_eq_getElem hj)
        exact ⟨_, h2⟩
/-- what is drawn from a three, and the three behind it -/
def drawP (p : Pl) (many : Int) : Int × Pl :=
  if p.2.1 = 1 ∧ 0 < p.1 then (p.1 % many, (p.1 / many, p.2.1, p.2.2))
  else
    let x := (p.1 % 99999999977 + 700001 * (p.2.2 + 1)) % 99999999947
    let y := x * x % 99999999821
    let z := y * (y + 19) % 9999999967
    (z / 13 % many, (p.1, p.2.1, p.2.2 + 1))
def drawOk (ps : List Pl) (i many : Int) : Bool := decide (0 < ps.length) && decide (0 ≤ i) && decide (0 < many) && decide (many.natAbs < 2 ^ 64)
theorem drawOk_iff {ps : List Pl} {i many : Int} : drawOk ps i many = true ↔ (0 < ps.length ∧ 0 ≤ i ∧ 0 < many ∧ many < 2 ^ 64) := by
  unfold drawOk
  rw [Bool.and_eq_true, Bool.and_eq_true, Bool.and_eq_true, decide_eq_true_eq, decide_eq_true_eq, decide_eq_true_eq, decide_eq_true_eq]
  exact ⟨fun h => ⟨h.1.1.1, h.1.1.2, h.1.2, by omega⟩, fun h => ⟨⟨⟨h.1, h.2.1⟩, h.2.2.1⟩, by omega⟩⟩
/-- the place of the three that is drawn from -/
def drawJ (ps : List Pl) (i : Int) : Nat := (i % (ps.length : Int)).toNat
def drawF : Fn := fun bs => match bs with
  | [.rs 0 d, .fr (.int many)] => match decD d with
    | some (ps, i) => if drawOk ps i many = true then (ps[drawJ ps i]?).bind fun p => some (.ret (.fr (.int (drawP p many).1)) [some (.rs 0 (encD (ps.set (drawJ ps i) (drawP p many).2) (i + 1)))]) else none
    | none => none
  | _ => none
theorem drawP_nonneg {p : Pl} {many : Int} (h : 0 < many) : 0 ≤ (drawP p many).1 ∧ (drawP p many).1 < many := by
  unfold drawP
  split
  · exact ⟨Int.emod_nonneg _ (by omega), Int.emod_lt_of_pos _ h⟩
  · exact ⟨Int.emod_nonneg _ (by omega), Int.emod_lt_of_pos _ h⟩
section
variable {K : PySem.W.Frag}
abbrev rLen2 (K : PySem.W.Frag) : List V → Hp → VK → Prop := fun xs H Q => ∃ p ys, xs = [.ref p] ∧ (SqL K H p ys ∨ SqT K H p ys) ∧ Q (.int ys.length) H
abbrev ixL (K : PySem.W.Frag) (a b : TE) : TE := tOp (rIxL K) a b
abbrev opP (a b : TE) : TE := tOp (rI0 fun i j => .int (i + j)) a b
abbrev opT (a b : TE) : TE := tOp (rI CMul fun i j => .int (i * j)) a b
abbrev opM (a b : TE) : TE := tOp (rI (fun _ j => 0 < j) fun i j => .int (i % j)) a b
abbrev opQ (a b : TE) : TE := tOp (rI CDivW fun i j => .int (i / j)) a b
abbrev cI (i : Int) : TE := tC (.int i)
/-- slots: 0 deck, 1 many, 2 pool, 3 found, 4 number -/
def tDraw (K : PySem.W.Frag) : TS :=
  tSeq (tAsg (ixL K (ixL K (tVar 0) (cI 0)) (opM (ixL K (tVar 0) (cI 1)) (tCB (rLen2 K) (tCons (ixL K (tVar 0) (cI 0)) tNil)))) (gName 2))
  (tSeq (tAsg (opP (ixL K (tVar 0) (cI 1)) (cI 1)) (gSub (tVar 0) (cI 1) rSetL))
  (tSeq (tIfS (L2.tAnd (tTest (tOp rEq (ixL K (tVar 2) (cI 1)) (cI 1))) (tTest (tOp (rI0 fun i j => .bl (decide (j < i))) (ixL K (tVar 2) (cI 0)) (cI 0))))
    (tSeq (tAsg (opM (ixL K (tVar 2) (cI 0)) (tVar 1)) (gName 3)) (tSeq (tAsg (opQ (ixL K (tVar 2) (cI 0)) (tVar 1)) (gSub (tVar 2) (cI 0) rSetL)) (tRet (tVar 3)))) tNext)
  (tSeq (tAsg (opP (ixL K (tVar 2) (cI 2)) (cI 1)) (gSub (tVar 2) (cI 2) rSetL))
  (tSeq (tAsg (opM (opP (opM (ixL K (tVar 2) (cI 0)) (cI 99999999977)) (opT (cI 700001) (ixL K (tVar 2) (cI 2)))) (cI 99999999947)) (gName 4))
  (tSeq (tAsg (opM (opT (tVar 4) (tVar 4)) (cI 99999999821)) (gName 4))
  (tSeq (tAsg (opM (opT (tVar 4) (opP (tVar 4) (cI 19))) (cI 9999999967)) (gName 4))
  (tRet (opM (opQ (tVar 4) (cI 13)) (tVar 1)))))))))
theorem ifT {c : Bool} {t u : Prop} (h : c = true) (k : t) : if c = true then t else u := by
  rw [if_pos h]
  exact k
theorem ifF {c : Bool} {t u : Prop} (h : c = false) (k : u) : if c = true then t else u := by
  rw [h, if_neg Bool.false_ne_true]
  exact k
theorem PyWideDiv {i : Int} (many : Int) (h3 : 0 < many) (h4 : many < 2 ^ 64) : CDivW i many := wide_div (b := 64) h3 (by omega) (by decide) (by decide)
theorem draw_reads {H : Hp} {p0 p1 : Addr} {as : List Addr} {ps : List Pl} {i many : Int} {D : Ends} {x : Pl} (A : DkAt H p0 p1 as ps i) (ok : drawOk ps i many = true) (hx : ps[drawJ ps i]? = some x)
    (k : ∀ H', DkAt H' p0 p1 as (ps.set (drawJ ps i) (drawP x many).2) (i + 1) → (∀ a, a ∉ p0 :: p1 :: as → H' a = H a) → D.rt (.int (drawP x many).1) H') :
    tDraw K D [some (.ref p0), some (.int many), none, none, none] H := by
  have ok' : 0 < ps.length ∧ 0 ≤ i ∧ 0 < many ∧ many < 2 ^ 64 := drawOk_iff.mp ok
  obtain ⟨h1, h2, h3, h4⟩ := ok'
  have hlen := A.len
  have hjl : drawJ ps i < ps.length := (List.getElem?_eq_some_iff.mp hx).1
  have hja : drawJ ps i < as.length := by omega
  obtain ⟨x', hx', hHa⟩ := A.at_ (drawJ ps i) as[drawJ ps i] (List.getElem?_eq_getElem hja)
  rw [hx] at hx'
  cases hx'
  generalize ha : as[drawJ ps i] = a at hHa
  have ham : a ∈ as := by rw [← ha]; exact List.getElem_mem hja
  obtain ⟨n1, n2⟩ := List.nodup_cons.mp A.nd
  obtain ⟨n3, n4⟩ := List.nodup_cons.mp n2
  have p01 : p0 ≠ p1 := fun z => n1 (by rw [z]; exact List.mem_cons_self)
  have p0a : p0 ≠ a := fun z => n1 (by rw [z]; exact List.mem_cons_of_mem _ ham)
  have p1a : p1 ≠ a := fun z => n3 (by rw [z]; exact ham)
  have hm : 0 ≤ i % (ps.length : Int) := Int.emod_nonneg _ (by omega)
  have hat : atI (as.map V.ref) (i % ((as.map V.ref).length : Int)) = some (.ref a) := by
    rw [List.length_map, hlen]
    refine at_of (j := drawJ ps i) ?_ ?_
    · unfold drawJ; omega
    · rw [List.getElem?_map, List.getElem?_eq_getElem hja, ha]; rfl
  unfold tDraw
  -- pool
  refine ⟨.ref p0, rfl, p0, _, 0, .ref p1, rfl, rfl, .of A.top, rfl, ?_⟩
  refine ⟨.ref p0, rfl, p0, _, 1, .int i, rfl, rfl, .of A.top, rfl, ?_⟩
  refine ⟨.ref p0, rfl, p0, _, 0, .ref p1, rfl, rfl, .of A.top, rfl, ?_⟩
  refine ⟨p1, _, rfl, .inl (.of A.mid), ?_⟩
  refine ⟨i, _, rfl, rfl, by rw [List.length_map, hlen]; omega, ?_⟩
  refine ⟨p1, _, _, .ref a, rfl, rfl, .of A.mid, hat, ?_⟩
  -- deck[1] = deck[1] + 1
  refine ⟨.ref p0, rfl, p0, _, 1, .int i, rfl, rfl, .of A.top, rfl, ?_⟩
  refine ⟨i, 1, rfl, rfl, .ref p0, rfl, p0, _, 1, 1, rfl, rfl, A.top, rfl, ?_⟩
  generalize hH1 : upd H p0 (.lst ([V.ref p1, V.int i].set 1 (V.int (i + 1)))) = H1
  have e0 : H1 p0 = some (.lst [.ref p1, .int (i + 1)]) := by rw [← hH1, upd_same]; rfl
  have e1 : H1 p1 = some (.lst (as.map .ref)) := by rw [← hH1, upd_ne (Ne.symm p01)]; exact A.mid
  have ea : H1 a = some (.lst (v3 x)) := by rw [← hH1, upd_ne (Ne.symm p0a)]; exact hHa
  -- the deck behind a change of the three
  have fin : ∀ y : Pl, DkAt (upd H1 a (.lst (v3 y))) p0 p1 as (ps.set (drawJ ps i) y) (i + 1) ∧ ∀ b, b ∉ p0 :: p1 :: as → upd H1 a (.lst (v3 y)) b = H b := by
    intro y
    refine ⟨⟨by rw [upd_ne p0a]; exact e0, by rw [upd_ne p1a]; exact e1, by rw [List.length_set]; exact hlen, fun j b hb => ?_, A.nd⟩, fun b hb => ?_⟩
    · by_cases hj : drawJ ps i = j
      · subst hj
        rw [List.getElem?_eq_getElem hja, ha] at hb
        cases hb
        exact ⟨y, List.getElem?_set_self hjl, upd_same⟩
      · obtain ⟨z, g1, g2⟩ := A.at_ j b hb
        have hbm := List.mem_of_getElem? hb
        have hba : b ≠ a := fun z => by
          subst z
          have hjb := (List.getElem?_eq_some_iff.mp hb).1
          exact hj ((List.getElem_inj (h₀ := hja) (h₁ := hjb) n4).mp (ha.trans (List.getElem?_eq_some_iff.mp hb).2.symm))
        have hb0 : b ≠ p0 := fun z => n1 (by rw [← z]; exact List.mem_cons_of_mem _ hbm)
        exact ⟨z, by rw [List.getElem?_set_ne hj]; exact g1, by rw [upd_ne hba, ← hH1, upd_ne hb0]; exact g2⟩
    · simp only [List.mem_cons, not_or] at hb
      rw [upd_ne fun z => hb.2.2 (by rw [z]; exact ham), ← hH1, upd_ne hb.1]
  obtain ⟨x1, x2, x3⟩ := x
  -- the test
  refine ⟨.ref a, rfl, a, _, 1, .int x2, rfl, rfl, .of ea, rfl, rfl, _, rfl, ?_⟩
  by_cases hc : x2 = 1 ∧ 0 < x1
  · have hd : drawP (x1, x2, x3) many = (x1 % many, (x1 / many, x2, x3)) := by unfold drawP; rw [if_pos hc]
    rw [hd] at k
    refine ifT (by rw [hc.1]; exact decide_eq_true rfl) ?_
    refine ⟨.ref a, rfl, a, _, 0, .int x1, rfl, rfl, .of ea, rfl, x1, 0, rfl, rfl, _, rfl, ?_⟩
    refine ifT (decide_eq_true hc.2) ?_
    refine ⟨.ref a, rfl, a, _, 0, .int x1, rfl, rfl, .of ea, rfl, _, rfl, x1, many, rfl, rfl, h3, ?_⟩
    refine ⟨.ref a, rfl, a, _, 0, .int x1, rfl, rfl, .of ea, rfl, _, rfl, x1, many, rfl, rfl, PyWideDiv many h3 h4, ?_⟩
    refine ⟨.ref a, rfl, a, _, 0, 0, rfl, rfl, ea, rfl, ?_⟩
    refine ⟨_, rfl, ?_⟩
    obtain ⟨f1, f2⟩ := fin (x1 / many, x2, x3)
    exact k _ f1 f2
  · have hd : drawP (x1, x2, x3) many = ((((x1 % 99999999977 + 700001 * (x3 + 1)) % 99999999947) * ((x1 % 99999999977 + 700001 * (x3 + 1)) % 99999999947) % 99999999821 * ((((x1 % 99999999977 + 700001 * (x3 + 1)) % 99999999947) * ((x1 % 99999999977 + 700001 * (x3 + 1)) % 99999999947) % 99999999821) + 19) % 9999999967) / 13 % many, (x1, x2, x3 + 1)) := by
      unfold drawP
      rw [if_neg hc]
    rw [hd] at k
    have rest : tSeq (tAsg (opP (ixL K (tVar 2) (cI 2)) (cI 1)) (gSub (tVar 2) (cI 2) rSetL))
        (tSeq (tAsg (opM (opP (opM (ixL K (tVar 2) (cI 0)) (cI 99999999977)) (opT (cI 700001) (ixL K (tVar 2) (cI 2)))) (cI 99999999947)) (gName 4))
        (tSeq (tAsg (opM (opT (tVar 4) (tVar 4)) (cI 99999999821)) (gName 4))
        (tSeq (tAsg (opM (opT (tVar 4) (opP (tVar 4) (cI 19))) (cI 9999999967)) (gName 4))
        (tRet (opM (opQ (tVar 4) (cI 13)) (tVar 1)))))) D [some (.ref p0), some (.int many), some (.ref a), none, none] H1 := by
      obtain ⟨f1, f2⟩ := fin (x1, x2, x3 + 1)
      refine ⟨.ref a, rfl, a, _, 2, .int x3, rfl, rfl, .of ea, rfl, x3, 1, rfl, rfl, .ref a, rfl, a, _, 2, 2, rfl, rfl, ea, rfl, ?_⟩
      have e2 : ((v3 (x1, x2, x3)).set 2 (V.int (x3 + 1))) = v3 (x1, x2, x3 + 1) := rfl
      rw [e2]
      have ea2 : upd H1 a (.lst (v3 (x1, x2, x3 + 1))) a = some (.lst (v3 (x1, x2, x3 + 1))) := upd_same
      refine ⟨.ref a, rfl, a, _, 0, .int x1, rfl, rfl, .of ea2, rfl, x1, _, rfl, rfl, (by show (0 : Int) < 99999999977; decide), ?_⟩
      refine ⟨.ref a, rfl, a, _, 2, .int (x3 + 1), rfl, rfl, .of ea2, rfl, 700001, _, rfl, rfl, .inl ⟨by decide, by decide⟩, _, _, rfl, rfl, _, _, rfl, rfl, (by show (0 : Int) < 99999999947; decide), ?_⟩
      refine ⟨_, rfl, _, rfl, _, _, rfl, rfl, .inl ⟨by omega, by omega⟩, _, _, rfl, rfl, (by show (0 : Int) < 99999999821; decide), ?_⟩
      refine ⟨_, rfl, _, rfl, _, 19, rfl, rfl, _, _, rfl, rfl, .inl ⟨by omega, by omega⟩, _, _, rfl, rfl, (by show (0 : Int) < 9999999967; decide), ?_⟩
      refine ⟨_, rfl, _, 13, rfl, rfl, PyWideDiv 13 (by decide) (by decide), _, rfl, _, many, rfl, rfl, h3, ?_⟩
      exact k _ f1 f2
    by_cases h2' : x2 = 1
    · have h0 : ¬ 0 < x1 := fun z => hc ⟨h2', z⟩
      refine ifT (by rw [h2']; exact decide_eq_true rfl) ?_
      refine ⟨.ref a, rfl, a, _, 0, .int x1, rfl, rfl, .of ea, rfl, x1, 0, rfl, rfl, _, rfl, ?_⟩
      refine ifF (decide_eq_false h0) ?_
      exact rest
    · have hne : ¬ V.int x2 = V.int 1 := fun z => h2' (V.int.inj z)
      refine ifF (decide_eq_false hne) ?_
      refine ifF rfl ?_
      exact rest
end
section
variable {P : Program} {w : World} {K : PySem.W.Frag} {mg : Str → Option Value} {base : Heap} {ρ : Nat → Res}
theorem cal_draw {x qual : Str} {params : Arguments} {body : List Stmt} {scope : Scope} {f : Addr} {fd : FuncData} (F : FunD K x qual params body scope [] [] f fd) (gm : mg x = some (.ref f)) (S : FnScope ["deck", "many", "pool", "found", "number"] ["deck", "many"] scope) (hρ : ρ 0 = DK)
    (hb : ∀ (kV doc pm : Value) (an : Option Addr) (cdv ct : Value) (us : List Value), us.length = 2 → bindArgs (PySem.W.fnOf x qual params body scope .none kV doc pm an cdv ct) ⟨us, []⟩ = pure ((["deck", "many"] : List Str).zip us))
    (hbody : ∀ (cdv : Value) (A : Around) (outer : List PySem.Env) (s : Shared) (H : Hp) (E : XK), Room 1 (A.deeper (PyProof.Rows.envOfC qual scope s.heap.objs.size f cdv)) →
      Vx (cxOf (L2.CX P w) P w K mg base ["deck", "many", "pool", "found", "number"] qual scope f cdv A outer s H E) (fun cls d _ H => E cls d H) → PSs (cxOf (L2.CX P w) P w K mg base ["deck", "many", "pool", "found", "number"] qual scope f cdv A outer s H E) body (tDraw K)) :
    CalK P w K mg base ρ x 2 [0] drawF 2 := by
  refine ⟨f, fd, ["deck", "many"], F.ok (k := 1) (CX := L2.CX P w) S (fun vs H Q E h => h.1) (fun cdv A outer s H vs Q E hr h => ⟨tDraw K, hbody cdv A outer s H E hr ⟨rfl, hr, S.nd, takes_of rfl rfl rfl rfl, passes_of rfl⟩, ?_⟩), gm, F.kp, F.bindsN hb⟩
  obtain ⟨hl, bs, w0, rfl, m, h⟩ := h
  unfold drawF at h
  split at h
  case h_2 => exact h.elim
  rename_i d many
  cases qd : decD d with
  | none => rw [qd] at h; exact h.elim
  | some pi =>
    obtain ⟨ps, i⟩ := pi
    rw [qd] at h
    dsimp only at h
    split at h
    case isFalse => exact h.elim
    case isTrue hok =>
    cases qx : ps[drawJ ps i]? with
    | none => rw [qx] at h; exact h.elim
    | some p =>
      rw [qx] at h
      obtain ⟨v0, g1, g2⟩ := m.bok 0 _ rfl
      obtain ⟨v1, g3, g4⟩ := m.bok 1 _ rfl
      have hv : vs = [v0, v1] := by
        match vs, hl, g1, g3 with
        | [a, b], _, g1, g3 =>
          cases g1
          cases g3
          rfl
      subst hv
      cases g4.1
      have g2' : (ρ 0).rep K w0.G w0.H v0 d (w0.fp 0) := g2
      rw [hρ] at g2'
      obtain ⟨p0, p1, as, ps', i', rfl, rfl, A', hf, hG⟩ := g2'
      rw [decD_enc] at qd
      cases qd
      refine draw_reads A' hok qx fun H' B hH => ?_
      have rep' : ((⟨K, mg, ρ⟩ : Cc).rho 0).rep K w0.G H' (.ref p0) (encD (ps.set (drawJ ps i) (drawP p many).2) (i + 1)) (w0.fp 0) := by
        show (ρ 0).rep _ _ _ _ _ _
        rw [hρ]
        exact ⟨p0, p1, as, _, _, rfl, rfl, B, hf, hG⟩
      obtain ⟨m2, f2⟩ := m.rsmut (i := 0) (v := .ref p0) rfl rfl rep' fun a ha => hH a fun z => ha ((hf a).mpr z)
      obtain ⟨w3, m3, f3, eH, eG, _⟩ := m2.less (e' := mask [0] [some (.rs 0 (encD (ps.set (drawJ ps i) (drawP p many).2) (i + 1)))] 2) rfl fun j b q => by
        match j, q with
        | 0, q => exact q
        | 1, q => exact absurd q (by unfold mask at?; simp)
        | j + 2, q => exact absurd q (by unfold mask at?; simp)
      have eH' : w3.H = H' := eH
      rw [← eH']
      exact h _ w3 m3 (f2.trans f3) (.fr (.int _))
end
end VL

set_option maxRecDepth 100000
/-! VL14: how a deck is made. -/
namespace VL
open PySem L2
section
variable {C : Cc} {π : List (Nat × V)} {e : VL.Env} {σ : St} {w : WS}
/-- a resource that grows -/
theorem Mt.rsgrow {i : Nat} {b b' : B} {v : V} {H' : Hp} {fp' : Addr → Prop} (m : Mt C π e σ w) (h : at? e i = some b) (hv : σ[i]? = some (some v)) (hr : BOk C w.G H' b' v fp') (hsub : ∀ a, w.fp i a → fp' a) (hnew : ∀ a, fp' a → w.fp i a ∨ w.H a = none) (hH : ∀ a, ¬ fp' a → H' a = w.H a) :
    Mt C π (e.set i (some b')) σ ⟨w.G, H', fun j a => if j = i then fp' a else w.fp j a⟩ ∧ Frm w ⟨w.G, H', fun j a => if j = i then fp' a else w.fp j a⟩ := by
  have own := hr.own
  have dis : ∀ (j : Nat) (a : Addr), j ≠ i → w.fp j a → ¬ fp' a := fun j a hj ha z => by
    rcases hnew a z with z | z
    · exact hj (m.dis j i a ha z)
    · obtain ⟨_, o, ho⟩ := m.own ha
      rw [z] at ho
      cases ho
  refine ⟨⟨by rw [List.length_set]; exact m.len, fun a o q => ?_, fun j b q => ?_, fun j q a z => ?_, fun j k a x y => ?_, m.pin⟩, ⟨Same.refl _, fun a o q n => ?_, fun a q => ?_⟩⟩
  · have hn : ¬ fp' a := fun z => by
      have := (own a z).1
      rw [q] at this
      cases this
    exact (hH a hn).trans (m.sub a o q)
  · by_cases hj : i = j
    · subst hj
      rw [at_set_same h] at q
      cases q
      refine ⟨v, hv, ?_⟩
      have e1 : (fun a => if i = i then fp' a else w.fp i a) = fp' := by funext a; rw [if_pos rfl]
      show BOk C w.G H' _ v (fun a => if i = i then fp' a else w.fp i a)
      rw [e1]
      exact hr
    · rw [at_set_ne hj] at q
      obtain ⟨u, k1, k2⟩ := m.bok j b q
      refine ⟨u, k1, ?_⟩
      have e1 : (fun a => if j = i then fp' a else w.fp j a) = w.fp j := by funext a; rw [if_neg (Ne.symm hj)]
      show BOk C w.G H' b u (fun a => if j = i then fp' a else w.fp j a)
      rw [e1]
      exact k2.mono (Same.refl _) fun a ha => ⟨hH a (dis j a (Ne.symm hj) ha), rfl⟩
  · by_cases hj : i = j
    · subst hj
      rw [at_set_same h] at q
      cases q
    · rw [at_set_ne hj] at q
      have z' : if j = i then fp' a else w.fp j a := z
      rw [if_neg (Ne.symm hj)] at z'
      exact m.non j q a z'
  · have x' : if j = i then fp' a else w.fp j a := x
    have y' : if k = i then fp' a else w.fp k a := y
    by_cases hj : j = i
    · by_cases hk : k = i
      · rw [hj, hk]
      · rw [if_pos hj] at x'
        rw [if_neg hk] at y'
        exact absurd x' (dis k a hk y')
    · by_cases hk : k = i
      · rw [if_neg hj] at x'
        rw [if_pos hk] at y'
        exact absurd y' (dis j a hj x')
      · rw [if_neg hj] at x'
        rw [if_neg hk] at y'
        exact m.dis j k a x' y'
  · have hn : ¬ fp' a := fun z => by
      rcases hnew a z with z | z
      · exact n i z
      · rw [z] at q; cases q
    refine ⟨(hH a hn).trans q, rfl, fun j z => ?_⟩
    have z' : if j = i then fp' a else w.fp j a := z
    by_cases hj : j = i
    · rw [if_pos hj] at z'; exact hn z'
    · rw [if_neg hj] at z'; exact n j z'
  · by_cases z : fp' a
    · obtain ⟨_, o, ho⟩ := own a z
      have q' : H' a = none := q
      rw [ho] at q'
      cases q'
    · exact (hH a z).symm.trans q
end
/-- a list of threes, each one's own -/
structure PkAt (H : Hp) (p1 : Addr) (as : List Addr) (ps : List Pl) : Prop where
  mid : H p1 = some (.lst (as.map .ref))
  len : as.length = ps.length
  at_ : ∀ (j : Nat) (a : Addr), as[j]? = some a → ∃ x, ps[j]? = some x ∧ H a = some (.lst (v3 x))
  nd : (p1 :: as).Nodup
def PK : Res where
  rep := fun _ G H v d fp => ∃ p1 as ps, v = .ref p1 ∧ d = .list (ps.map encP) ∧ PkAt H p1 as ps ∧ (∀ a, fp a ↔ a ∈ p1 :: as) ∧ ∀ a ∈ p1 :: as, G a = none
  frame := by
    rintro K G H G' H' v d fp ⟨p1, as, ps, rfl, rfl, D, hf, hG⟩ s k
    refine ⟨p1, as, ps, rfl, rfl, ⟨?_, D.len, fun j a ha => ?_, D.nd⟩, hf, fun a ha => ?_⟩
    · rw [(k p1 ((hf _).mpr (by simp))).1]; exact D.mid
    · obtain ⟨x, h1, h2⟩ := D.at_ j a ha
      exact ⟨x, h1, by rw [(k a ((hf _).mpr (by simp [List.mem_of_getElem? ha]))).1]; exact h2⟩
    · rw [(k a ((hf _).mpr ha)).2]; exact hG a ha
  own := by
    rintro K G H v d fp ⟨p1, as, ps, rfl, rfl, D, hf, hG⟩ a ha
    have ha' := (hf a).mp ha
    refine ⟨hG a ha', ?_⟩
    rcases List.mem_cons.mp ha' with rfl | h
    · exact ⟨_, D.mid⟩
    · obtain ⟨j, hj, rfl⟩ := List.mem_iff_getElem.mp h
      obtain ⟨x, _, h2⟩ := D.at_ j as[j] (List.getElem?_eq_getElem hj)
      exact ⟨_, h2⟩
/-- the resources of a deck -/
def rhoD : Nat → Res
  | 0 => DK
  | 1 => PK
  | _ => R0
def sNewP (i : Nat) : FS := fun e => some (.nx (e.set i (some (.rs 1 (.list [])))))
def sAppP (i : Nat) (fd : FD) : FS := fun e => match at? e i with
  | some (.rs 1 _) => bndS (fd e) fun ds e1 => match ds, at? e1 i with
    | [.int a, .int b, .int c], some (.rs 1 (.list l)) => if l.length < big then some (.nx (e1.set i (some (.rs 1 (.list (l ++ [encP (a, b, c)])))))) else none
    | _, _ => none
  | _ => none
def fDeck (i : Nat) : FE := fun e => match at? e i with
  | some (.rs 1 (.list l)) => some (.ok (.b (.rs 0 (.list [.list l, .int 0]))) (e.set i none))
  | _ => none
section
variable {X : Cx} {ρ : Nat → Res} {W : WX} {pn : List Nat} {a b c o tg : Expr} {es : List Expr} {pos p p2 apos cpos : Pos} {fd : FD}
theorem vs_newP (V0 : X.N.Nodup) (h1 : ρ 1 = PK) (i : Nat) {x : Str} {pos' : Pos} (hi : X.N[i]? = some x := by rfl) (hp : i ∉ pn := by decide) (hx : Loc X.env.scope x := by first | exact Or.inl rfl | exact Or.inr rfl) (hs : swapsWith (.List [] p) (some (.Name x pos')) pos.line X.env = pure false := by rfl)
    (hf : X.fn x = true ∨ X.env.scope.names.lookup x = some .local := by first | exact .inl rfl | exact .inr rfl) : VS X ρ W pn (.Assign [.Name x pos'] (.List [] p) pos) (sNewP i) := by
  refine ⟨_, ps_set V0 hi hx (pe_lst pa_nil) hs hf, fun π e σ w D hpi m h => ⟨Nat.zero_le _, fun q hq => ?_⟩⟩
  have m1 : Mt (cc X ρ) π e σ (w.new q (.lst [])) := m.new hq
  have f1 : Frm w (w.new q (.lst [])) := .new hq
  have hG : w.G q = none := m.sub.free hq
  obtain ⟨w2, m2, f2, eH, _⟩ := m1.bind (b := .rs 1 (.list [])) (v := .ref q) (fp := fun a => a = q) f1 (fun p h (z : p.1 = i) => hp (z ▸ hpi p h))
    (by
      show (ρ 1).rep _ _ _ _ _ _
      rw [h1]
      exact ⟨q, [], [], rfl, rfl, ⟨upd_same, rfl, fun j a h => by simp at h, by simp⟩, fun a => by simp, fun a ha => by
        rw [List.mem_singleton] at ha
        subst ha
        exact hG⟩)
    (fun a ha => by subst ha; exact ⟨.inl hq, fun j z => m.notOwned hq j z⟩)
  have eH' : w2.H = upd w.H q (.lst []) := eH
  show D.nx _ (upd w.H q (.lst []))
  rw [← eH']
  exact h _ w2 m2 f2
theorem vs_appP {y : Str} {py lp : Pos} (h1 : ρ 1 = PK) (i : Nat) (ha : VD X ρ W es fd)
    (hN : X.N[i]? = some y := by rfl) (hv : Vis X.env.scope y := by first | exact Or.inl rfl | exact Or.inr (Or.inl rfl) | exact Or.inr (Or.inr rfl)) (hd : (y == ("__debug__" : Str)) = false := by decide) (hcd : (y == ("__classdict__" : Str)) = false := by decide)
    (hbase : attributeBase (.Name y py) "append" X.env (eval (.Name y py) X.env) = eval (.Name y py) X.env := by rfl)
    (hfew : ((backTo cpos (starEach [.List es lp] X.env)).all (fun x => !x.1) && (backToKw cpos (keywordEach [] X.env)).all (fun x => x.1.isSome)
      && decide ([Expr.List es lp].length + ([] : List Keyword).length + (if ([] : List Keyword).isEmpty then 0 else 1) < 30)) = true := by rfl)
    (hline : (apos.endLine == cpos.line) = true := by rfl) (hs : starEach [.List es lp] X.env = (false, eval (.List es lp) X.env) :: starEach [] X.env := by rfl) (hplain : (backTo cpos (starEach [] X.env)).any (·.1) = false := by rfl)
    (hsw : swapsWith (.Call (.Attribute (.Name y py) "append" apos) [.List es lp] [] cpos) none pos.line X.env = pure false := by rfl) :
    VS X ρ W pn (.Expr (.Call (.Attribute (.Name y py) "append" apos) [.List es lp] [] cpos) pos) (sAppP i fd) := by
  obtain ⟨t, pa, s⟩ := ha
  refine ⟨_, ps_expr (pe_bm PySem.F.plainAttrs_list PySem.F.slot_list_append PySem.F.type_list_append mt_append (pe_var hN hv hd hcd) (pa_cons (pe_lst pa) pa_nil hs) hbase hfew hline hs hplain) hsw, fun π e σ w D hp m h => ?_⟩
  unfold sAppP at h
  split at h
  case h_2 => exact h.elim
  rename_i d0 q0
  obtain ⟨v0, g1, g2⟩ := m.bok i _ q0
  have hty : tyV X.K "list" v0 w.H := by
    have g2' : (ρ 1).rep X.K w.G w.H v0 d0 (w.fp i) := g2
    rw [h1] at g2'
    obtain ⟨p1, as, ps, rfl, rfl, D, hf, hG⟩ := g2'
    exact .inl ⟨rfl, _, .of D.mid⟩
  refine ⟨v0, g1, hty, s π e σ w _ m (h.bnd fun ds e1 vs w1 m1 f1 k1 h3 => ?_)⟩
  split at h3
  case h_2 => exact h3.elim
  rename_i a b c l q1
  split at h3
  case isFalse => exact h3.elim
  rename_i hl
  obtain ⟨u0, j1, j2⟩ := m1.bok i _ q1
  rw [g1] at j1
  cases j1
  have j2' : (ρ 1).rep X.K w1.G w1.H v0 (.list l) (w1.fp i) := j2
  rw [h1] at j2'
  obtain ⟨p1, as, ps, rfl, el, A, hf, hG⟩ := j2'
  cases el
  have hlen := A.len
  have kv : vs = v3 (a, b, c) := by
    cases k1 with
    | cons r1 k1 =>
      cases k1 with
      | cons r2 k1 =>
        cases k1 with
        | cons r3 k1 =>
          cases k1
          cases r1
          cases r2
          cases r3
          rfl
  subst kv
  refine ⟨by show 3 ≤ sizeLine; decide, fun q hq => ?_⟩
  have q1n : q ≠ p1 := fun z => by subst z; rw [A.mid] at hq; cases hq
  have qas : q ∉ as := fun z => by
    obtain ⟨j, hj, rfl⟩ := List.mem_iff_getElem.mp z
    obtain ⟨x, _, h2⟩ := A.at_ j as[j] (List.getElem?_eq_getElem hj)
    rw [hq] at h2
    cases h2
  obtain ⟨n1, n2⟩ := List.nodup_cons.mp A.nd
  refine ⟨p1, _, _, rfl, rfl, by rw [upd_ne (Ne.symm q1n)]; exact A.mid, by rw [List.length_map]; exact lt_big (by rw [hlen]; rw [List.length_map] at hl; exact hl), ?_⟩
  have hqG : w1.G q = none := m1.sub.free hq
  have e1 : (as.map V.ref) ++ [V.ref q] = (as ++ [q]).map V.ref := by rw [List.map_append]; rfl
  rw [e1]
  obtain ⟨m2, f2⟩ := m1.rsgrow (i := i) (b' := .rs 1 (.list ((ps ++ [(a, b, c)]).map encP))) (v := .ref p1) (H' := upd (upd w1.H q (.lst (v3 (a, b, c)))) p1 (.lst ((as ++ [q]).map V.ref))) (fp' := fun z => z ∈ p1 :: (as ++ [q])) q1 g1
    (by
      show (ρ 1).rep _ _ _ _ _ _
      rw [h1]
      refine ⟨p1, as ++ [q], ps ++ [(a, b, c)], rfl, rfl, ⟨upd_same, by simp [hlen], fun j z hz => ?_, ?_⟩, fun z => Iff.rfl, fun z hz => ?_⟩
      · by_cases hj : j < as.length
        · rw [List.getElem?_append_left hj] at hz
          obtain ⟨x, h2, h3⟩ := A.at_ j z hz
          have zm := List.mem_of_getElem? hz
          refine ⟨x, by rw [List.getElem?_append_left (by omega)]; exact h2, ?_⟩
          rw [upd_ne fun y => n1 (by rw [← y]; exact zm), upd_ne fun y => qas (by rw [← y]; exact zm)]
          exact h3
        · rw [List.getElem?_append_right (by omega)] at hz
          have hj2 : j - as.length = 0 := by
            cases q9 : j - as.length with
            | zero => rfl
            | succ k => rw [q9] at hz; simp at hz
          rw [hj2] at hz
          cases hz
          refine ⟨(a, b, c), by rw [List.getElem?_append_right (by omega), ← hlen, hj2]; rfl, ?_⟩
          rw [upd_ne q1n, upd_same]
      · refine List.nodup_cons.mpr ⟨?_, ?_⟩
        · rw [List.mem_append, List.mem_singleton]
          rintro (z | z)
          · exact n1 z
          · exact q1n z.symm
        · exact List.nodup_append.mpr ⟨n2, by simp, fun x hx y hy z => by
            rw [List.mem_singleton] at hy
            subst hy
            exact qas (by rw [← z]; exact hx)⟩
      · rcases List.mem_cons.mp hz with rfl | hz
        · exact hG _ (by simp)
        · rcases List.mem_append.mp hz with hz | hz
          · exact hG _ (by simp [hz])
          · rw [List.mem_singleton] at hz
            subst hz
            exact hqG)
    (fun z hz => by
      have := (hf z).mp hz
      simp only [List.mem_cons, List.mem_append] at this ⊢
      rcases this with h | h
      · exact .inl h
      · exact .inr (.inl h))
    (fun z hz => by
      rcases List.mem_cons.mp hz with rfl | hz
      · exact .inl ((hf _).mpr (by simp))
      · rcases List.mem_append.mp hz with hz | hz
        · exact .inl ((hf _).mpr (by simp [hz]))
        · rw [List.mem_singleton] at hz
          subst hz
          exact .inr hq)
    (fun z hz => by
      simp only [List.mem_cons, List.mem_append, not_or] at hz
      rw [upd_ne hz.1, upd_ne hz.2.2.1])
  have e2 : (ps ++ [(a, b, c)]).map encP = ps.map encP ++ [encP (a, b, c)] := by rw [List.map_append]; rfl
  rw [e2] at m2
  exact h3 σ _ m2 (f1.trans f2)
theorem ve_deck {y : Str} {py p0 lp : Pos} {kk} (h0 : ρ 0 = DK) (h1 : ρ 1 = PK) (i : Nat)
    (hN : X.N[i]? = some y := by rfl) (hv : Vis X.env.scope y := by first | exact Or.inl rfl | exact Or.inr (Or.inl rfl) | exact Or.inr (Or.inr rfl)) (hd : (y == ("__debug__" : Str)) = false := by decide) (hcd : (y == ("__classdict__" : Str)) = false := by decide)
    (hs : starEach (.Name y py :: [.Constant (.int 0) kk p0]) X.env = (false, eval (.Name y py) X.env) :: starEach [.Constant (.int 0) kk p0] X.env := by rfl) (hs2 : starEach (.Constant (.int 0) kk p0 :: []) X.env = (false, eval (.Constant (.int 0) kk p0) X.env) :: starEach [] X.env := by rfl) :
    VE X ρ W (.List [.Name y py, .Constant (.int 0) kk p0] lp) (fDeck i) := by
  refine ⟨_, pe_lst (pa_cons (pe_var hN hv hd hcd) (pa_cons pe_int pa_nil hs2) hs), fun π e σ w Q m h => ?_⟩
  unfold fDeck at h
  split at h
  case h_2 => exact h.elim
  rename_i l q0
  obtain ⟨v0, g1, g2⟩ := m.bok i _ q0
  have g2' : (ρ 1).rep X.K w.G w.H v0 (.list l) (w.fp i) := g2
  rw [h1] at g2'
  obtain ⟨p1, as, ps, rfl, el, A, hf, hG⟩ := g2'
  cases el
  refine ⟨.ref p1, g1, by show 2 ≤ sizeLine; decide, fun q hq => ?_⟩
  have m1 : Mt (cc X ρ) π e σ (w.new q (.lst [.ref p1, .int 0])) := m.new hq
  have f1 : Frm w (w.new q (.lst [.ref p1, .int 0])) := .new hq
  obtain ⟨w2, m2, f2, eH, eG, hl⟩ := m1.drop (i := i)
  have hqn : ∀ z ∈ p1 :: as, z ≠ q := fun z hz y => by
    subst y
    obtain ⟨_, o, ho⟩ := m.own ((hf _).mpr hz)
    rw [hq] at ho
    cases ho
  have eH' : w2.H = upd w.H q (.lst [.ref p1, .int 0]) := eH
  have eG' : w2.G = w.G := eG
  rw [← eH']
  have key : ∃ fp : Addr → Prop, BOk (cc X ρ) w2.G w2.H (.rs 0 (.list [.list (ps.map encP), .int 0])) (.ref q) fp ∧ ∀ a, fp a → (w.H a = none ∨ ∃ i, w.fp i a) ∧ ∀ i, ¬ w2.fp i a := by
    refine ⟨fun a => a ∈ q :: p1 :: as, ?_, fun z hz => ⟨?_, fun j y => ?_⟩⟩
    · show (ρ 0).rep _ _ _ _ _ _
      rw [h0, eH', eG']
      refine ⟨q, p1, as, ps, 0, rfl, rfl, ⟨upd_same, ?_, A.len, fun j z hz => ?_, ?_⟩, fun a => Iff.rfl, fun z hz => ?_⟩
      · rw [upd_ne (hqn p1 (by simp))]; exact A.mid
      · obtain ⟨x, h2, h3⟩ := A.at_ j z hz
        exact ⟨x, h2, by rw [upd_ne (hqn z (by simp [List.mem_of_getElem? hz]))]; exact h3⟩
      · exact List.nodup_cons.mpr ⟨fun z => hqn q z rfl, A.nd⟩
      · rcases List.mem_cons.mp hz with rfl | hz
        · exact m.sub.free hq
        · exact hG z hz
    · rcases List.mem_cons.mp hz with rfl | hz
      · exact .inl hq
      · exact .inr ⟨i, (hf z).mpr hz⟩
    · have y1 := hl j z y
      rcases List.mem_cons.mp hz with rfl | hz
      · exact m.notOwned hq j y1
      · have hj := m.dis i j z ((hf z).mpr hz) y1
        subst hj
        have hi : i < e.length := by
          unfold at? at q0
          cases q2 : e[i]? with
          | none => rw [q2] at q0; cases q0
          | some y => exact (List.getElem?_eq_some_iff.mp q2).1
        exact m2.non i (at_set_lt hi) z y
  exact h (.ref q) w2 m2 (f1.trans f2) key
end
end VL

set_option maxRecDepth 100000
/-! VL15: list(range(..)). -/
namespace VL
open PySem L2
def rgOk (i j : Int) : Bool := decide (i.natAbs < 2 ^ 62) && decide (j.natAbs < 2 ^ 62) && decide ((j - i).toNat ≤ big)
def fListRg1 (fa : FE) : FE := fun e => bnd (fa e) fun o e1 => match res e1 o with
  | some (.int j) => if rgOk 0 j = true then some (.ok (.b (.ow (rngN 0 j.toNat))) e1) else none
  | _ => none
def fListRg2 (fa fb : FE) : FE := fun e => bnd (fa e) fun o e1 => bnd (fb e1) fun o2 e2 => match res e2 o, res e2 o2 with
  | some (.int i), some (.int j) => if rgOk i j = true then some (.ok (.b (.ow (rngN i (j - i).toNat))) e2) else none
  | _, _ => none
section
variable {X : Cx} {ρ : Nat → Res} {W : WX} {a b : Expr} {pos p p2 p3 : Pos} {fa fb : FE}
theorem rp_rng {K : PySem.W.Frag} {G : Hp} {lo : Int} {n : Nat} : RpAll K G ((List.range n).map fun i => V.int (lo + (i : Nat))) (rngN lo n) := by
  unfold rngN
  generalize List.range n = l
  induction l with
  | nil => exact .nil
  | cons x l ih => exact .cons (.int _) ih
theorem rg_ok {i j : Int} (h : rgOk i j = true) : RgOk i j := by
  unfold rgOk at h
  rw [Bool.and_eq_true, Bool.and_eq_true, decide_eq_true_eq, decide_eq_true_eq, decide_eq_true_eq] at h
  exact ⟨by omega, by omega, by omega, by omega, Nat.le_trans h.2 (by decide)⟩
theorem ve_listRg1 (hc : X.calm = true) (hm : X.mg "list" = none) (hr : X.mg "range" = none) (ha : VE X ρ W a fa) (hg : Gl X "list" := by rfl) (hg2 : Gl X "range" := by rfl) (na : starEach [a] X.env = (false, eval a X.env) :: starEach [] X.env := by rfl)
    (na2 : starEach [.Call (.Name "range" p2) [a] [] p3] X.env = (false, eval (.Call (.Name "range" p2) [a] [] p3) X.env) :: starEach [] X.env := by rfl) : VE X ρ W (.Call (.Name "list" p) [.Call (.Name "range" p2) [a] [] p3] [] pos) (fListRg1 fa) := by
  obtain ⟨t, p, s⟩ := ha
  refine ⟨_, pe_listRg hc hg hm (prg_1 hg2 hr p na) na2, fun π e σ w Q m h => ?_⟩
  refine s π e σ w _ m (h.bnd fun o1 e1 v1 w1 m1 f1 k1 h1 => ?_)
  have h3 := h1.from f1
  split at h3
  · rename_i j q1
    have r := res_sound m1 k1 q1
    cases r
    split at h3
    · rename_i hok
      refine ⟨j, rfl, rg_ok hok, fun q hq => ?_⟩
      obtain ⟨m2, f2, k2⟩ := mk_lst (es := rngN 0 j.toNat) (zs := rgV 0 j) m1 hq (by unfold rgV; rw [Int.sub_zero]; exact rp_rng)
      exact h3 _ _ m2 f2 (k2.base f1)
    · exact h3.elim
  · exact h3.elim
theorem ve_listRg2 (hc : X.calm = true) (hm : X.mg "list" = none) (hr : X.mg "range" = none) (ha : VE X ρ W a fa) (hb : VE X ρ W b fb) (hg : Gl X "list" := by rfl) (hg2 : Gl X "range" := by rfl) (na : starEach [a, b] X.env = (false, eval a X.env) :: starEach [b] X.env := by rfl) (nb : starEach [b] X.env = (false, eval b X.env) :: starEach [] X.env := by rfl)
    (hpl : (backTo p3 (starEach [b] X.env)).any (·.1) = false := by rfl)
    (na2 : starEach [.Call (.Name "range" p2) [a, b] [] p3] X.env = (false, eval (.Call (.Name "range" p2) [a, b] [] p3) X.env) :: starEach [] X.env := by rfl) : VE X ρ W (.Call (.Name "list" p) [.Call (.Name "range" p2) [a, b] [] p3] [] pos) (fListRg2 fa fb) := by
  obtain ⟨t, p, s⟩ := ha
  obtain ⟨t2, p2', s2⟩ := hb
  refine ⟨_, pe_listRg hc hg hm (prg_2 hg2 hr p p2' na nb hpl) na2, fun π e σ w Q m h => ?_⟩
  refine s π e σ w _ m (h.bnd fun o1 e1 v1 w1 m1 f1 k1 h1 => ?_)
  refine s2 π e1 σ w1 _ m1 ((h1.from f1).bnd fun o2 e2 v2 w2 m2 f2 k2 h2 => ?_)
  have h3 := h2.from f2
  split at h3
  · rename_i i j q1 q2
    have r := res_sound m2 (k1.step f2) q1
    have r2 := res_sound m2 k2 q2
    cases r
    cases r2
    split at h3
    · rename_i hok
      refine ⟨i, j, rfl, rfl, rg_ok hok, fun q hq => ?_⟩
      obtain ⟨m3, f3, k3⟩ := mk_lst (es := rngN i (j - i).toNat) (zs := rgV i j) m2 hq (by unfold rgV; exact rp_rng)
      exact h3 _ _ m3 f3 (k3.base (f1.trans f2))
    · exact h3.elim
  · exact h3.elim
end
end VL

set_option maxRecDepth 100000
/-! VL16: comprehensions and loops over a list of one's own that stays. -/
namespace VL
open PySem L2
mutual
def beqD : PyData → PyData → Bool
  | .none, .none => true
  | .bool a, .bool b => a == b
  | .int a, .int b => decide (a = b)
  | .str a, .str b => decide (a = b)
  | .list xs, .list ys => beqDs xs ys
  | .tuple xs, .tuple ys => beqDs xs ys
  | .dict xs, .dict ys => beqKv xs ys
  | _, _ => false
def beqDs : List PyData → List PyData → Bool
  | [], [] => true
  | x :: xs, y :: ys => beqD x y && beqDs xs ys
  | _, _ => false
def beqKv : List (PyData × PyData) → List (PyData × PyData) → Bool
  | [], [] => true
  | (a, b) :: xs, (c, d) :: ys => beqD a c && beqD b d && beqKv xs ys
  | _, _ => false
end
mutual
theorem beqD_ok : ∀ (a b : PyData), beqD a b = true → a = b := fun a b h => by
  cases a <;> cases b <;> simp only [beqD, Bool.false_eq_true] at h
  case none.none => rfl
  case bool.bool a b => rw [eq_of_beq h]
  case int.int a b => rw [of_decide_eq_true h]
  case str.str a b => rw [of_decide_eq_true h]
  case list.list a b => rw [beqDs_ok a b h]
  case tuple.tuple a b => rw [beqDs_ok a b h]
  case dict.dict a b => rw [beqKv_ok a b h]
theorem beqDs_ok : ∀ (a b : List PyData), beqDs a b = true → a = b := fun a b h => by
  cases a with
  | nil => cases b with
    | nil => rfl
    | cons y ys => simp [beqDs] at h
  | cons x xs => cases b with
    | nil => simp [beqDs] at h
    | cons y ys =>
      simp only [beqDs, Bool.and_eq_true] at h
      rw [beqD_ok x y h.1, beqDs_ok xs ys h.2]
theorem beqKv_ok : ∀ (a b : List (PyData × PyData)), beqKv a b = true → a = b := fun a b h => by
  cases a with
  | nil => cases b with
    | nil => rfl
    | cons y ys => simp [beqKv] at h
  | cons x xs => cases b with
    | nil => obtain ⟨x1, x2⟩ := x; simp [beqKv] at h
    | cons y ys =>
      obtain ⟨x1, x2⟩ := x
      obtain ⟨y1, y2⟩ := y
      simp only [beqKv, Bool.and_eq_true] at h
      rw [beqD_ok x1 y1 h.1.1, beqD_ok x2 y2 h.1.2, beqKv_ok xs ys h.2]
end
mutual
theorem beqD_refl : ∀ a : PyData, beqD a a = true
  | .none => by simp only [beqD]
  | .bool b => by simp only [beqD]; exact beq_self_eq_true b
  | .int b => by simp [beqD]
  | .str b => by simp [beqD]
  | .list xs => by simp only [beqD]; exact beqDs_refl xs
  | .tuple xs => by simp only [beqD]; exact beqDs_refl xs
  | .dict xs => by simp only [beqD]; exact beqKv_refl xs
theorem beqDs_refl : ∀ a : List PyData, beqDs a a = true
  | [] => by simp only [beqDs]
  | x :: xs => by simp only [beqDs, beqD_refl x, beqDs_refl xs, Bool.and_self]
theorem beqKv_refl : ∀ a : List (PyData × PyData), beqKv a a = true
  | [] => by simp only [beqKv]
  | (x, y) :: xs => by simp only [beqKv, beqD_refl x, beqD_refl y, beqKv_refl xs, Bool.and_self]
end
/-- the name still holds just these -/
def keepD (i : Nat) (ds0 : List PyData) (e : Env) : Bool := match at? e i with
  | some (.ow ds) => beqDs ds ds0
  | _ => false
theorem keepD_ok {i : Nat} {ds0 : List PyData} {e : Env} (h : keepD i ds0 e = true) : at? e i = some (.ow ds0) := by
  unfold keepD at h
  split at h
  · rename_i ds q
    rw [q, beqDs_ok _ _ h]
  · cases h
theorem keepD_of {i : Nat} {ds0 : List PyData} {e : Env} (h : at? e i = some (.ow ds0)) : keepD i ds0 e = true := by
  unfold keepD
  rw [h]
  exact beqDs_refl ds0
def fLcPL (i : Nat) (ds0 : List PyData) (g : FG) (t : FT) (f : FE) (vs : List Nat) : List PyData → List PyData → Env → Option (Out O)
  | [], acc, e => if keepD i ds0 e = true then some (.ok (.b (.ow acc)) e) else none
  | d :: ds, acc, e => if keepD i ds0 e = true then (match g d e with
    | none => none
    | some e1 => match t e1 with
      | some (.ok true e2) => match f e2 with
        | some (.ok o e3) => match fz e3 o with
          | some p => if acc.length < big then fLcPL i ds0 g t f vs ds (acc ++ [p.1]) (forget vs p.2) else none
          | none => none
        | _ => none
      | some (.ok false e2) => fLcPL i ds0 g t f vs ds acc (forget vs e2)
      | _ => none) else none
def fLcP (i : Nat) (g : FG) (t : FT) (f : FE) (vs : List Nat) : FE := fun e => match at? e i with
  | some (.ow ds) => fLcPL i ds g t f vs ds [] (forget vs e)
  | _ => none
section
variable {X : Cx} {ρ : Nat → Res} {W : WX} {pn : List Nat} {st : Stmt} {rest : List Stmt} {a b c tg iter elt : Expr} {es ifs : List Expr} {pos p : Pos} {fa fb fc : FE} {ta tb tc : FT} {f g : FS} {fi : FI} {ft : FG}
theorem se_lcP {C : Cc} {t : TG} {tt : TT} {te : TE} {vs : List Nat} (ii : Nat) (hii : ii ∉ vs) (sg : SG C [] t ft) (wg : WipeG t vs) (st : ST C W0 tt ta) (sf : SE C W0 te fa) : SE C W (tLc (iList C.K (tVar ii)) t tt te vs) (fLcP ii ft ta fa vs) := fun π e σ w Q m h => by
  unfold fLcP at h
  split at h
  case h_2 => exact h.elim
  rename_i ds q0
  obtain ⟨v0, g1, g2⟩ := m.bok ii _ q0
  obtain ⟨p, xs0, rfl, gp1, gp2, gp3, gp4⟩ := g2
  refine ⟨.ref p, g1, p, rfl, ⟨_, .of gp2⟩, ?_⟩
  have f1 : Frm w w := .refl w
  have k1 : ∀ (i : Nat) (e' : Env) (w' : WS), Mt C [] e' (L2.wipe σ vs) w' → keepD ii ds e' = true → (i < ds.length → (Itl C.K p).go i w'.H) ∧ (ds.length ≤ i → (Itl C.K p).stop i w'.H) ∧
      ∀ x H', (Itl C.K p).yld i w'.H x H' → ∀ d, ds[i]? = some d → ∃ w2, Mt C [] e' (L2.wipe σ vs) w2 ∧ Frm w' w2 ∧ w2.H = H' ∧ Rp C.K w2.G x d := by
    intro i e' w' m' hk
    obtain ⟨v1, j1, j2⟩ := m'.bok ii _ (keepD_ok hk)
    rw [wipe_get hii, g1] at j1
    cases j1
    obtain ⟨p', xs, ep, h1, hH, r, h4⟩ := j2
    cases ep
    have hl := r.length
    refine ⟨fun hi => ⟨xs, xs[i]'(by omega), .of hH, List.getElem?_eq_getElem (by omega)⟩, fun hi => ⟨xs, .of hH, by omega⟩, fun x H' y d hd => ?_⟩
    obtain ⟨rfl, hx⟩ := y
    obtain ⟨v, k2, k3⟩ := r.get hd
    have := hx xs (.of hH)
    rw [k2] at this
    cases this
    exact ⟨w', m', .refl w', rfl, k3⟩
  intro D hD
  obtain ⟨wf, mf, ff, eHf, eGf, hlf⟩ := m.forget (vs := vs)
  have hDf : wf.H D = none := by rw [eHf]; exact hD
  have hDw : w.H D = none := f1.t D hD
  have hG1 : wf.G D = none := mf.sub.free hDf
  have m2 := mf.new (o := .lst []) hDf
  have f2 := Frm.new (o := .lst []) hDf
  have hno : ∀ i, ¬ (wf.new D (.lst [])).fp i D := fun i => mf.notOwned hDf i
  have mw : Mt C [] (forget vs e) (L2.wipe σ vs) (wf.new D (.lst [])) := m2.wipe fun i b q => (at_forget q).2
  -- the invariant
  refine ⟨fun i n H' => n = ds.length - i ∧ i ≤ ds.length ∧ ∃ e' w' acc xs, w'.H = H' ∧ Mt C [] e' (L2.wipe σ vs) w' ∧ (∀ j b, at? e' j = some b → j ∉ vs) ∧ Frm w w' ∧ Same w.G w'.G ∧ w'.H D = some (.lst xs) ∧ w'.G D = none ∧ (∀ j, ¬ w'.fp j D) ∧ RpAll C.K w'.G xs acc ∧
      Post C W π σ w (fLcPL ii ds ft ta fa vs (ds.drop i) acc e') (OOk C σ w) Q,
    ⟨ds.length, by simp, Nat.zero_le _, forget vs e, wf.new D (.lst []), [], [], by rw [show (wf.new D (.lst [])).H = upd wf.H D (.lst []) from rfl, eHf], mw, fun j b q => (at_forget q).2, ff.trans f2, (ff.trans f2).g, upd_same, hG1, hno, .nil, by rw [List.drop_zero]; exact h⟩, ?_⟩
  rintro i n H' ⟨rfl, hi, e', w', acc, xs, rfl, m', hv', fr', sG, hDx, hGD, hnD, rA, h3⟩
  have hk : keepD ii ds e' = true := by
    cases q9 : keepD ii ds e' with
    | true => rfl
    | false =>
      exfalso
      cases q8 : ds.drop i with
      | nil =>
        rw [q8, fLcPL, q9, if_neg Bool.false_ne_true] at h3
        exact h3
      | cons d r =>
        rw [q8, fLcPL, q9, if_neg Bool.false_ne_true] at h3
        exact h3
  obtain ⟨go, stop, yld⟩ := k1 i e' w' m' hk
  have frw : Frm w w' := f1.trans fr'
  by_cases hlt : i < ds.length
  · refine .inr ⟨go hlt, fun H2 => i + 1 ≤ ds.length ∧ ∃ e' w' acc xs, w'.H = H2 ∧ Mt C [] e' (L2.wipe σ vs) w' ∧ (∀ j b, at? e' j = some b → j ∉ vs) ∧ Frm w w' ∧ Same w.G w'.G ∧ w'.H D = some (.lst xs) ∧ w'.G D = none ∧ (∀ j, ¬ w'.fp j D) ∧ RpAll C.K w'.G xs acc ∧
      Post C W π σ w (fLcPL ii ds ft ta fa vs (ds.drop (i + 1)) acc e') (OOk C σ w) Q, fun H2 q => ⟨ds.length - (i + 1), by omega, rfl, q⟩, fun x H2 y => ?_⟩
    obtain ⟨w2, m2, f2, eH2, r2⟩ := yld x H2 y ds[i] (List.getElem?_eq_getElem hlt)
    subst eH2
    rw [List.drop_eq_getElem_cons hlt] at h3
    unfold fLcPL at h3
    rw [if_pos hk] at h3
    cases q : ft ds[i] e' with
    | none => rw [q] at h3; exact h3.elim
    | some e3 =>
      rw [q] at h3
      simp only at h3
      -- the target
      have ww := wipe_wipe (σ := σ) (vs := vs)
      -- the rest of the turn, for whatever slots
      have turn : ∀ σ3 w3, L2.wipe σ3 vs = L2.wipe σ vs → σ3.length = σ.length → Mt C [] e3 σ3 w3 → Frm w2 w3 → tt σ3 w3.H fun b H3 => if b = true then te σ3 H3 fun y H4 => ∃ acc, H4 D = some (.lst acc) ∧ acc.length < sizeLine ∧
          (i + 1 ≤ ds.length ∧ ∃ e' w' acc_1 xs, w'.H = upd H4 D (.lst (acc ++ [y])) ∧ Mt C [] e' (L2.wipe σ vs) w' ∧ (∀ j b, at? e' j = some b → j ∉ vs) ∧ Frm w w' ∧ Same w.G w'.G ∧ w'.H D = some (.lst xs) ∧ w'.G D = none ∧ (∀ j, ¬ w'.fp j D) ∧ RpAll C.K w'.G xs acc_1 ∧ Post C W π σ w (fLcPL ii ds ft ta fa vs (ds.drop (i + 1)) acc_1 e') (OOk C σ w) Q)
          else (i + 1 ≤ ds.length ∧ ∃ e' w' acc_1 xs, w'.H = H3 ∧ Mt C [] e' (L2.wipe σ vs) w' ∧ (∀ j b, at? e' j = some b → j ∉ vs) ∧ Frm w w' ∧ Same w.G w'.G ∧ w'.H D = some (.lst xs) ∧ w'.G D = none ∧ (∀ j, ¬ w'.fp j D) ∧ RpAll C.K w'.G xs acc_1 ∧ Post C W π σ w (fLcPL ii ds ft ta fa vs (ds.drop (i + 1)) acc_1 e') (OOk C σ w) Q) := by
        intro σ3 w3 hw3 hl3 m3 f3
        have fD : ∀ {w4}, Frm w' w4 → w4.H D = some (.lst xs) ∧ w4.G D = none ∧ ∀ j, ¬ w4.fp j D := fun {w4} f => by
          obtain ⟨g1, g2, g3⟩ := f.k D _ hDx hnD
          exact ⟨g1, g2.trans hGD, g3⟩
        refine st [] e3 σ3 w3 _ m3 ?_
        cases qt : ta e3 with
        | none => rw [qt] at h3; exact h3.elim
        | some ot =>
          rw [qt] at h3
          cases ot with
          | ex c e => exact h3.elim
          | ok bt e4 =>
            intro b w4 m4 f4 eb
            subst eb
            have f24 : Frm w' w4 := (f2.trans f3).trans f4
            cases bt with
            | false =>
              rw [if_neg Bool.false_ne_true]
              simp only at h3
              obtain ⟨w5, m5, f5, eH5, eG5, _⟩ := m4.forget (vs := vs)
              have f25 := f24.trans f5
              obtain ⟨g1, g2, g3⟩ := fD f25
              refine ⟨hlt, _, w5, acc, xs, eH5, (m5.unwipe (π := []) (vs := vs) (by rw [ww]; exact hw3) (by rw [wipe_length]; exact hl3) (fun j b q => (at_forget q).2) (fun p h => by cases h)), fun j b q => (at_forget q).2, fr'.trans f25, sG.trans f25.g, g1, g2, g3, rA.mono f25.g, h3⟩
            | true =>
              rw [if_pos rfl]
              simp only at h3
              refine sf [] e4 σ3 w4 _ m4 ?_
              cases qf : fa e4 with
              | none => rw [qf] at h3; exact h3.elim
              | some of_ =>
                rw [qf] at h3
                cases of_ with
                | ex c e => exact h3.elim
                | ok o e5 =>
                  intro yv w5 m5 f5 k5
                  simp only at h3
                  cases qz : fz e5 o with
                  | none => rw [qz] at h3; exact h3.elim
                  | some pz =>
                    rw [qz] at h3
                    obtain ⟨dz, ez⟩ := pz
                    simp only at h3
                    obtain ⟨w6, m6, f6, eH6, r6⟩ := fz_sound m5 f5 k5 qz
                    split at h3
                    case isFalse => exact h3.elim
                    case isTrue hbig =>
                      have f26 : Frm w' w6 := f24.trans f6
                      obtain ⟨g1, g2, g3⟩ := fD f26
                      have hlen := rA.length
                      refine ⟨xs, by rw [← eH6]; exact g1, by rw [hlen]; exact Nat.lt_of_lt_of_le hbig big_le, hlt, ?_⟩
                      -- D grows
                      obtain ⟨w7, m7, f7, eH7, eG7, hl7⟩ := m6.forget (vs := vs)
                      have f27 := f26.trans f7
                      obtain ⟨a1, a2, a3⟩ := fD f27
                      have m8 : Mt C [] (forget vs ez) (L2.wipe σ vs) { w7 with H := upd w7.H D (.lst (xs ++ [yv])) } := by
                        have m7' := m7.unwipe (σ := L2.wipe σ vs) (π := []) (vs := vs) (by rw [ww]; exact hw3) (by rw [wipe_length]; exact hl3) (fun j b q => (at_forget q).2) (fun p h => by cases h)
                        refine ⟨m7'.len, fun a u qa => ?_, fun j b qb => ?_, m7'.non, m7'.dis, m7'.pin⟩
                        · show upd w7.H D (.lst (xs ++ [yv])) a = some u
                          rw [upd_ne (ne_of_none qa a2)]
                          exact m7'.sub a u qa
                        · obtain ⟨v, b1, b2⟩ := m7'.bok j b qb
                          refine ⟨v, b1, b2.mono (Same.refl _) fun a ha => ⟨upd_ne fun z => a3 j (by rw [← z]; exact ha), rfl⟩⟩
                      refine ⟨_, _, acc ++ [dz], xs ++ [yv], by show upd w7.H D _ = _; rw [eH7, eH6], m8, fun j b q => (at_forget q).2, ⟨(fr'.trans f27).g, fun a o ha hna => ?_, fun a ha => ?_⟩, sG.trans f27.g, upd_same, a2, a3, (rA.mono f27.g).append (.cons (r6.mono f7.g) .nil), h3⟩
                      · obtain ⟨b1, b2, b3⟩ := (fr'.trans f27).k a o ha hna
                        refine ⟨?_, b2, b3⟩
                        show upd w7.H D _ a = some o
                        rw [upd_ne (ne_of_none ha hD)]
                        exact b1
                      · by_cases z : a = D
                        · rw [z]; exact hD
                        · have ha' : upd w7.H D (.lst (xs ++ [yv])) a = none := ha
                          rw [upd_ne z] at ha'
                          exact (fr'.trans f27).t a ha'
      exact wg x _ _ _ _ ww (sg [] e' _ w2 ds[i] x e3 _ (fun p h => by cases h) m2 r2 q fun σ3 w3 m3 f3 _ hw hl => turn σ3 w3 hw (hl.trans (wipe_length σ vs)) m3 f3)
  · have e2 : i = ds.length := by omega
    subst e2
    rw [List.drop_length] at h3
    unfold fLcPL at h3
    rw [if_pos hk] at h3
    refine .inl ⟨stop (Nat.le_refl _), ?_⟩
    have mu : Mt C π e' σ w' := m'.unwipe (σ := σ) (vs := vs) wipe_wipe (wipe_length σ vs) hv' m.pin
    exact h3 (.ref D) w' mu frw ⟨fun a => a = D, ⟨D, xs, rfl, hGD, hDx, rA, fun _ => Iff.rfl⟩, fun a ha => by subst ha; exact ⟨.inl hDw, hnD⟩⟩
theorem ve_lcP {scope : Scope} {y : Str} {py : Pos} (V0 : Vx X W) (own : List (Str × Nat)) {t : TG} (ii : Nat) (hii : ii ∉ own.map (·.2)) (ok : blkC X.N X.env.scope scope own = true)
    (hg : ∀ (s : Shared) (H : Hp) (C : Addr) (cl : List (Str × Addr)) (fp : List Addr), PG (X.blk s H scope (compEnvC scope cl C X.env) fp) tg t) (sg : SG (cc X ρ) [] t ft) (wg : WipeG t (own.map (·.2)))
    (ht : ∀ (s : Shared) (H : Hp) (C : Addr) (cl : List (Str × Addr)) (fp : List Addr), Vx (X.blk s H scope (compEnvC scope cl C X.env) fp) W0 → VC (X.blk s H scope (compEnvC scope cl C X.env) fp) ρ ifs ta)
    (he : ∀ (s : Shared) (H : Hp) (C : Addr) (cl : List (Str × Addr)) (fp : List Addr), Vx (X.blk s H scope (compEnvC scope cl C X.env) fp) W0 → VE (X.blk s H scope (compEnvC scope cl C X.env) fp) ρ W0 elt fa)
    (hN : X.N[ii]? = some y := by rfl) (hv : Vis X.env.scope y := by first | exact Or.inl rfl | exact Or.inr (Or.inl rfl) | exact Or.inr (Or.inr rfl)) (hd : (y == ("__debug__" : Str)) = false := by decide) (hcd : (y == ("__classdict__" : Str)) = false := by decide)
    (hs : ∀ x, foldedSetIterable (.Name y py) X.env x = pure x := by intro _; rfl) :
    VE X ρ W (.ListComp elt [⟨tg, .Name y py, ifs, 0⟩] scope pos) (fLcP ii ft ta fa (own.map (·.2))) := by
  obtain ⟨tt, te, p1, p2, s1, s2⟩ := lc_parts V0 ht he
  exact ⟨_, pe_lc V0.calm V0.nd (pi_list (pe_var hN hv hd hcd)) (blkOk_by ok) hg p1 p2 hs, se_lcP ii hii sg wg s1 s2⟩
end
end VL

set_option maxRecDepth 100000
namespace VP
open PySem L2 VL
def h__law_draw : Fn := drawF
/-- 0: thing -/
def b_is_whole : FS :=
  (sRetO (fAndV (fIsi .int (fVar 0)) (fNotV (fIsi .bool (fVar 0)))))
def h_is_whole : Fn := runF b_is_whole 1
/-- 0: thing, 1: one -/
def b_is_order : FS :=
  (sSeq (sIf (tOr (tNot (fTest (fIsi .list (fVar 0)))) (tNot (fTest (fChain oLe oLe (fC (.int 1)) (fCB gLen (aCons (fVar 0) aNil)) (fC (.int 12)))))) (sRetO (fC (.bool false))) sNil)
  (sSeq (sIf (fTest (fBin oNe (fLc (iSeq (fVar 0)) (gN 1) (tNot (fTest (fCallP h_is_whole 1 (aP (fVar 1) aNil)))) (fVar 1) [1]) (fLst dNil))) (sRetO (fC (.bool false))) sNil)
  (sRetO (fBin oEq (fCB gSorted (aCons (fVar 0) aNil)) (fListRg1 (fCB gLen (aCons (fVar 0) aNil)))))))
def h_is_order : Fn := runF b_is_order 2
/-- 0: thing -/
def b_need_order : FS :=
  (sIf (tNot (fTest (fCallP h_is_order 1 (aP (fVar 0) aNil)))) (sRaise "NoOrder") sNil)
def h_need_order : Fn := runF b_need_order 1
/-- 0: script, 1: pools, 2: k, 3: cell -/
def b__law_deck : FS :=
  (sSeq (sNewP 1)
  (sSeq (sFor (iRange1 (fCB gMax (aCons (fC (.int 1)) (aCons (fCB gMin (aCons (fC (.int 63)) (aCons (fScLen (fVar 0)) aNil))) aNil)))) (gN 2) (sSeq (sAsg 3 (fC (.int 0)))
  (sSeq (sIf (fTest (fBin oLt (fVar 2) (fScLen (fVar 0)))) (sAsg 3 (fScIx (fVar 0) (fVar 2))) sNil)
  (sAppP 1 (dCons (fVar 3) (dCons (fCB gInt (aCons (fBin oGe (fVar 3) (fBin oPow (fC (.int 10)) (fC (.int 18)))) aNil)) (dCons (fBin oMul (fC (.int 31)) (fVar 2)) dNil)))))) [2, 3])
  (sRetO (fDeck 1))))
def h__law_deck : Fn := runF b__law_deck 4
/-- 0: deck, 1: n, 2: left, 3: way, 4: k, 5: p -/
def b__law_order : FS :=
  (sSeq (sOwn 2 (fListRg1 (fVar 1)))
  (sSeq (sAsg 3 (fCall h__law_draw 2 [(0, 0)] (aM 0 (aF (fC (.int 4)) aNil))))
  (sSeq (sIf (fTest (fBin oEq (fVar 3) (fC (.int 0)))) (sRetO (fLc (iRange1 (fVar 1)) (gN 4) tTrue (fMth 2 mPop (dCons (fCall h__law_draw 2 [(0, 0)] (aM 0 (aF (fCB gLen (aCons (fVar 2) aNil)) aNil))) dNil)) [4])) sNil)
  (sSeq (sIf (fTest (fBin oEq (fVar 3) (fC (.int 1)))) (sOwn 2 (fUn oRev (fVar 2))) sNil)
  (sSeq (sFor (iRange1 (fBin oMul (fCall h__law_draw 2 [(0, 0)] (aM 0 (aF (fC (.int 7)) aNil))) (fCB gInt (aCons (fBin oGt (fVar 1) (fC (.int 1))) aNil)))) (gN 4) (sSeq (sAsg 5 (fCall h__law_draw 2 [(0, 0)] (aM 0 (aF (fBin oSub (fVar 1) (fC (.int 1))) aNil))))
  (sPut2 2 (fVar 5) 2 (fBin oAdd (fVar 5) (fC (.int 1))) (dCons (fBin oIx (fVar 2) (fBin oAdd (fVar 5) (fC (.int 1)))) (dCons (fBin oIx (fVar 2) (fVar 5)) dNil)))) [4, 5])
  (sRetO (fVar 2)))))))
def h__law_order : Fn := runF b__law_order 6
/-- 0: deck -/
def b__law_things : FS :=
  (sRetO (fBin oIx (fLst (dCons (fBin oAdd (fC (.int 1)) (fCall h__law_draw 2 [(0, 0)] (aM 0 (aF (fC (.int 4)) aNil)))) (dCons (fBin oAdd (fC (.int 1)) (fCall h__law_draw 2 [(0, 0)] (aM 0 (aF (fC (.int 8)) aNil)))) (dCons (fBin oAdd (fC (.int 1)) (fCall h__law_draw 2 [(0, 0)] (aM 0 (aF (fC (.int 12)) aNil)))) (dCons (fC (.int 12)) dNil))))) (fCall h__law_draw 2 [(0, 0)] (aM 0 (aF (fC (.int 4)) aNil)))))
def h__law_things : Fn := runF b__law_things 1
end VP

set_option maxRecDepth 100000
namespace VP
open PySem L2 VL
/-- 0: deck, 1: order, 2: found, 3: n, 4: way, 5: thing, 6: k, 7: p, 8: q -/
def b__law_near : FS :=
  (sSeq (sOwn 2 (fCB gList (aCons (fVar 1) aNil)))
  (sSeq (sAsg 3 (fCB gLen (aCons (fVar 1) aNil)))
  (sSeq (sAsg 4 (fCall h__law_draw 2 [(0, 0)] (aM 0 (aF (fC (.int 5)) aNil))))
  (sSeq (sIf (fTest (fBin oEq (fVar 4) (fC (.int 0)))) (sRetO (fCall h__law_order 2 [(0, 0)] (aM 0 (aF (fVar 3) aNil)))) sNil)
  (sSeq (sIf (fTest (fBin oEq (fVar 4) (fC (.int 1)))) (sRetO (fUn oRev (fVar 2))) sNil)
  (sSeq (sIf (fTest (fBin oEq (fVar 4) (fC (.int 2)))) (sSeq (sAsg 5 (fMth 2 mPop (dCons (fCall h__law_draw 2 [(0, 0)] (aM 0 (aF (fVar 3) aNil))) dNil)))
  (sSeq (sExpr (fMth 2 mInsert (dCons (fCall h__law_draw 2 [(0, 0)] (aM 0 (aF (fVar 3) aNil))) (dCons (fVar 5) dNil))))
  (sRetO (fVar 2)))) sNil)
  (sSeq (sFor (iRange1 (fCall h__law_draw 2 [(0, 0)] (aM 0 (aF (fC (.int 5)) aNil)))) (gN 6) (sSeq (sAsg 7 (fCall h__law_draw 2 [(0, 0)] (aM 0 (aF (fVar 3) aNil))))
  (sSeq (sAsg 8 (fBin oIx (fLst (dCons (fCall h__law_draw 2 [(0, 0)] (aM 0 (aF (fVar 3) aNil))) (dCons (fCB gMin (aCons (fBin oSub (fVar 3) (fC (.int 1))) (aCons (fBin oAdd (fVar 7) (fC (.int 1))) aNil))) dNil))) (fBin oSub (fVar 4) (fC (.int 3)))))
  (sPut2 2 (fVar 7) 2 (fVar 8) (dCons (fBin oIx (fVar 2) (fVar 8)) (dCons (fBin oIx (fVar 2) (fVar 7)) dNil))))) [6, 7, 8])
  (sRetO (fVar 2)))))))))
def h__law_near : Fn := runF b__law_near 9
end VP

set_option maxRecDepth 100000
namespace VP
open PySem L2 VL
/-- 0: order, 1: found, 2: place, 3: thing -/
def b_turned_back : FS :=
  (sSeq (sOwn 1 (fBin oMul (fLst (dCons (fC (.int 0)) dNil)) (fCB gLen (aCons (fVar 0) aNil))))
  (sSeq (sFor (iEnumr (fVar 0)) (gT2 2 3) (sPut 1 (fVar 3) (fVar 2)) [2, 3])
  (sRetO (fVar 1))))
def h_turned_back : Fn := runF b_turned_back 4
/-- 0: order -/
def b_back_of : FS :=
  (sSeq (sExpr (fCallP h_need_order 1 (aP (fVar 0) aNil)))
  (sRetO (fCall h_turned_back 1 [] (aF (fVar 0) aNil))))
def h_back_of : Fn := runF b_back_of 1
/-- 0: first, 1: second, 2: thing -/
def b_order_behind : FS :=
  (sSeq (sExpr (fCallP h_need_order 1 (aP (fVar 0) aNil)))
  (sSeq (sExpr (fCallP h_need_order 1 (aP (fVar 1) aNil)))
  (sSeq (sIf (fTest (fBin oNe (fCB gLen (aCons (fVar 0) aNil)) (fCB gLen (aCons (fVar 1) aNil)))) (sRaise "NoFit") sNil)
  (sRetO (fLc (iSeq (fVar 1)) (gN 2) tTrue (fBin oIx (fVar 0) (fVar 2)) [2])))))
def h_order_behind : Fn := runF b_order_behind 3
end VP


set_option maxRecDepth 100000
/-! VS: computing what expressions and statements compute. -/
namespace VL
open PySem L2
/-- keeps simp from computing in the kernel -/
theorem tr {α : Sort u} {a b : α} (h : a = b) : a = b := h
section
variable {α β : Type} {a : α} {e e1 : VL.Env} {x : Option B} {i : Nat} {b : B} {d : PyData} {c : Str}
@[simp] theorem x_bnd_ok {k : α → VL.Env → Option (Out β)} : bnd (some (.ok a e)) k = k a e := rfl
@[simp] theorem x_bnd_ex {k : α → VL.Env → Option (Out β)} : bnd (some (.ex c e)) k = some (.ex c e) := rfl
@[simp] theorem x_bndS_ok {k : α → VL.Env → Option SO} : bndS (some (.ok a e)) k = k a e := rfl
@[simp] theorem x_bndS_ex {k : α → VL.Env → Option SO} : bndS (some (.ex c e)) k = some (.ex c e) := rfl
@[simp] theorem x_at0 : at? (x :: e) 0 = x := rfl
@[simp] theorem x_at1 : at? (x :: e) (i + 1) = at? e i := rfl
@[simp] theorem x_dat1 : (B.fr d).dat = some d := rfl
@[simp] theorem x_dat2 {ds : List PyData} : (B.ow ds).dat = some (.list ds) := rfl
@[simp] theorem x_dat3 {ds : List (PyData × PyData)} : (B.od ds).dat = some (.dict ds) := rfl
@[simp] theorem x_dat4 : (B.ex c).dat = none := rfl
@[simp] theorem x_dat5 {ns : List Int} : (B.sc ns).dat = none := rfl
@[simp] theorem x_dat6 {k : Nat} : (B.rs k d).dat = none := rfl
@[simp] theorem x_res_s : res e (.s i) = (at? e i).bind B.dat := rfl
@[simp] theorem x_res_b : res e (.b b) = b.dat := rfl
@[simp] theorem x_fz_fr : fz e (.b (.fr d)) = some (d, e) := rfl
@[simp] theorem x_fz_ow {ds : List PyData} : fz e (.b (.ow ds)) = some (.list ds, e) := rfl
@[simp] theorem x_fz_od {ds : List (PyData × PyData)} : fz e (.b (.od ds)) = some (.dict ds, e) := rfl
@[simp] theorem x_fz_s : fz e (.s i) = match at? e i with
    | some (.fr d) => some (d, e)
    | some (.ow ds) => some (.list ds, e.set i (some (.fr (.list ds))))
    | some (.od kvs) => some (.dict kvs, e.set i (some (.fr (.dict kvs))))
    | _ => none := rfl
@[simp] theorem x_fzB_fr : fzB e (.b (.fr d)) = some (.fr d, e) := rfl
@[simp] theorem x_fzB_ow {ds : List PyData} : fzB e (.b (.ow ds)) = some (.fr (.list ds), e) := rfl
@[simp] theorem x_fzB_od {ds : List (PyData × PyData)} : fzB e (.b (.od ds)) = some (.fr (.dict ds), e) := rfl
@[simp] theorem x_fzB_ex : fzB e (.b (.ex c)) = some (.ex c, e) := rfl
@[simp] theorem x_fzB_sc {ns : List Int} : fzB e (.b (.sc ns)) = some (.sc ns, e) := rfl
@[simp] theorem x_fzB_s : fzB e (.s i) = match at? e i with
    | some (.ex c) => some (.ex c, e)
    | some (.sc ns) => some (.sc ns, e)
    | _ => (fz e (.s i)).map fun p => (.fr p.1, p.2) := rfl
@[simp] theorem x_okD : okD d e = some (.ok (.b (.fr d)) e) := tr rfl
@[simp] theorem x_fVar : fVar i e = match at? e i with
  | some _ => some (.ok (.s i) e)
  | none => none := tr rfl
@[simp] theorem x_fC : fC d e = some (.ok (.b (.fr d)) e) := tr rfl
@[simp] theorem x_fBin {op : PyData → PyData → Option B} {fa fb : FE} : fBin op fa fb e = bnd (fa e) fun o1 e1 => bnd (fb e1) fun o2 e2 => (res e2 o1).bind fun x => (res e2 o2).bind fun y => (op x y).bind fun z => some (.ok (.b z) e2) := tr rfl
@[simp] theorem x_fUn {op : PyData → Option B} {fa : FE} : fUn op fa e = bnd (fa e) fun o1 e1 => (res e1 o1).bind fun x => (op x).bind fun z => some (.ok (.b z) e1) := tr rfl
@[simp] theorem x_dNil : dNil e = some (.ok [] e) := tr rfl
@[simp] theorem x_dCons {f : FE} {r : FD} : dCons f r e = bnd (f e) fun o e1 => (fz e1 o).bind fun p => bnd (r p.2) fun ds e2 => some (.ok (p.1 :: ds) e2) := tr rfl
@[simp] theorem x_fLst {r : FD} : fLst r e = bnd (r e) fun ds e1 => if ds.length ≤ 1000 then some (.ok (.b (.ow ds)) e1) else none := tr rfl
@[simp] theorem x_fTup {r : FD} : fTup r e = bnd (r e) fun ds e1 => if ds.length ≤ 1000 then some (.ok (.b (.fr (.tuple ds))) e1) else none := tr rfl
@[simp] theorem x_fTest {f : FE} : fTest f e = bnd (f e) fun o e1 => match res e1 o with
  | some (.bool b) => some (.ok b e1)
  | _ => none := tr rfl
@[simp] theorem x_fIf {t : FT} {fa fb : FE} : fIf t fa fb e = bnd (t e) fun b e1 => match b with
  | true => fa e1
  | false => fb e1 := tr rfl
@[simp] theorem x_tAnd {t u : FT} : tAnd t u e = bnd (t e) fun b e1 => match b with
  | true => u e1
  | false => some (.ok false e1) := tr rfl
@[simp] theorem x_tOr {t u : FT} : tOr t u e = bnd (t e) fun b e1 => match b with
  | true => some (.ok true e1)
  | false => u e1 := tr rfl
@[simp] theorem x_tNot {t : FT} : tNot t e = bnd (t e) fun b e1 => some (.ok (!b) e1) := tr rfl
@[simp] theorem x_sSeq {f g : FS} : sSeq f g e = match f e with
  | some (.nx e1) => g e1
  | r => r := tr rfl
@[simp] theorem x_sExpr {f : FE} : sExpr f e = bndS (f e) fun _ e1 => some (.nx e1) := tr rfl
@[simp] theorem x_sAsg {f : FE} : sAsg i f e = bndS (f e) fun o e1 => (fzB e1 o).bind fun p => some (.nx (p.2.set i (some p.1))) := tr rfl
@[simp] theorem x_sOwn {f : FE} : sOwn i f e = bndS (f e) fun o e1 => match o with
  | .b b => some (.nx (e1.set i (some b)))
  | .s _ => none := tr rfl
@[simp] theorem x_sRetO {f : FE} : sRetO f e = bndS (f e) fun o e1 => match o with
  | .b b => some (.rt b e1)
  | .s i => (at? e1 i).bind fun b => some (.rt b (e1.set i none)) := tr rfl
@[simp] theorem x_sRetN : sRetN e = some (.rt (.fr .none) e) := tr rfl
@[simp] theorem x_sNil : sNil e = some (.nx e) := tr rfl
@[simp] theorem x_sRaise : sRaise c e = some (.ex c e) := tr rfl
@[simp] theorem x_sBrk : sBrk e = some (.bk e) := tr rfl
@[simp] theorem x_sIf {t : FT} {f g : FS} : sIf t f g e = bndS (t e) fun b e1 => match b with
  | true => f e1
  | false => g e1 := tr rfl
@[simp] theorem x_aNil : aNil e = some (.ok [] e) := tr rfl
@[simp] theorem x_aCons {f : FE} {r : FA} : aCons f r e = bnd (f e) fun o e1 => bnd (r e1) fun os e2 => some (.ok (o :: os) e2) := tr rfl
@[simp] theorem x_resAll0 : resAll e [] = some [] := rfl
@[simp] theorem x_resAll1 {o : O} {os : List O} : resAll e (o :: os) = (res e o).bind fun d => (resAll e os).bind fun ds => some (d :: ds) := rfl
@[simp] theorem x_fCB {g : List PyData → Option B} {fa : FA} : fCB g fa e = bnd (fa e) fun os e1 => (resAll e1 os).bind fun ds => (g ds).bind fun z => some (.ok (.b z) e1) := tr rfl
@[simp] theorem x_fIsi {T : Ty} {fa : FE} : fIsi T fa e = bnd (fa e) fun o e1 => (res e1 o).bind fun d => okD (.bool (isD T d)) e1 := tr rfl
@[simp] theorem x_iSeq {f : FE} : iSeq f e = bnd (f e) fun o e1 => (fz e1 o).bind fun p => match p.1 with
  | .list ds => some (.ok ds p.2)
  | _ => none := tr rfl
@[simp] theorem x_sFor {fi : FI} {g : FG} {body : FS} {dead : List Nat} : sFor fi g body dead e = bndS (fi e) fun ds e1 => sForL g body dead ds e1 := tr rfl
@[simp] theorem x_forget0 : forget [] e = e := rfl
@[simp] theorem x_forget1 {vs : List Nat} : forget (i :: vs) e = forget vs (e.set i none) := rfl
@[simp] theorem x_fNotV {fa : FE} : fNotV fa e = bnd (fa e) fun o e1 => match res e1 o with
  | some (.bool b) => okD (.bool (!b)) e1
  | _ => none := tr rfl
@[simp] theorem x_fAndV {fa fb : FE} : fAndV fa fb e = bnd (fa e) fun o e1 => match res e1 o with
  | some (.bool true) => fb e1
  | some (.bool false) => okD (.bool false) e1
  | _ => none := tr rfl
@[simp] theorem x_fOrV {fa fb : FE} : fOrV fa fb e = bnd (fa e) fun o e1 => match res e1 o with
  | some (.bool true) => okD (.bool true) e1
  | some (.bool false) => fb e1
  | _ => none := tr rfl
@[simp] theorem x_fChain {g h : PyData → PyData → Option B} {fa fb fc : FE} : fChain g h fa fb fc e = bnd (fa e) fun o1 e1 => bnd (fb e1) fun o2 e2 =>
  (res e2 o1).bind fun x => (res e2 o2).bind fun y => match g x y with
    | some (.fr (.bool true)) => bnd (fc e2) fun o3 e3 => (res e3 o2).bind fun y' => (res e3 o3).bind fun z => (h y' z).bind fun r => some (.ok (.b r) e3)
    | some (.fr (.bool false)) => some (.ok (.b (.fr (.bool false))) e2)
    | _ => none := tr rfl
@[simp] theorem x_aF {f : FE} {r : FA} : aF f r e = bnd (f e) fun o e1 => (fzB e1 o).bind fun p => bnd (r p.2) fun os e2 => some (.ok (.b p.1 :: os) e2) := tr rfl
@[simp] theorem x_aM {r : FA} : aM i r e = match at? e i with
  | some _ => bnd (r e) fun os e2 => some (.ok (.s i :: os) e2)
  | none => none := tr rfl
@[simp] theorem x_aP {f : FE} {r : FA} : aP f r e = bnd (f e) fun o e1 => match o with
  | .s i => bnd (r e1) fun os e2 => some (.ok (.s i :: os) e2)
  | .b _ => (fzB e1 o).bind fun p => bnd (r p.2) fun os e2 => some (.ok (.b p.1 :: os) e2) := tr rfl
@[simp] theorem x_bindO0 : bindO e [] = some [] := rfl
@[simp] theorem x_bindOb {os : List O} : bindO e (.b b :: os) = (bindO e os).bind fun bs => some (b :: bs) := rfl
@[simp] theorem x_bindOs {os : List O} : bindO e (.s i :: os) = (at? e i).bind fun x => (bindO e os).bind fun bs => some (x :: bs) := rfl
@[simp] theorem x_putBack0 {e2 : VL.Env} : putBack e2 [] e = e := rfl
@[simp] theorem x_putBack1 {e2 : VL.Env} {j : Nat} {r : List (Nat × Nat)} : putBack e2 ((j, i) :: r) e = putBack e2 r (e.set i (at? e2 j)) := rfl
@[simp] theorem x_lendO0 : lendO e [] = some [] := rfl
@[simp] theorem x_lendOb {os : List O} : lendO e (.b b :: os) = (lendO e os).bind fun bs => some (b :: bs) := rfl
@[simp] theorem x_lendOs {os : List O} : lendO e (.s i :: os) = ((at? e i).bind lent).bind fun x => (lendO e os).bind fun bs => some (x :: bs) := rfl
@[simp] theorem x_lent1 : lent (.fr d) = some (.fr d) := rfl
@[simp] theorem x_lent2 {ds : List PyData} : lent (.ow ds) = some (.fr (.list ds)) := rfl
@[simp] theorem x_lent3 {ds : List (PyData × PyData)} : lent (.od ds) = some (.fr (.dict ds)) := rfl
@[simp] theorem x_lent4 : lent (.ex c) = some (.ex c) := rfl
@[simp] theorem x_lent5 {ns : List Int} : lent (.sc ns) = some (.sc ns) := rfl
@[simp] theorem x_flatO0 : flatO [] = true := rfl
@[simp] theorem x_flatOs {os : List O} : flatO (.s i :: os) = flatO os := rfl
@[simp] theorem x_flatO1 {os : List O} : flatO (.b (.fr d) :: os) = flatO os := rfl
@[simp] theorem x_flatO2 {os : List O} : flatO (.b (.ex c) :: os) = flatO os := rfl
@[simp] theorem x_flatO3 {os : List O} {ns : List Int} : flatO (.b (.sc ns) :: os) = flatO os := rfl
@[simp] theorem x_fCallP {F : Fn} {n : Nat} {fa : FA} : fCallP F n fa e = bnd (fa e) fun os e1 => if flatO os = true then (lendO e1 os).bind fun bs => if bs.length = n then match F bs with
  | some (.ret (.fr d) _) => if isFlat d = true then okD d e1 else none
  | some (.ex c _) => some (.ex c e1)
  | _ => none else none else none := tr rfl
@[simp] theorem x_fCall {F : Fn} {n : Nat} {mi : List (Nat × Nat)} {fa : FA} : fCall F n mi fa e = bnd (fa e) fun os e1 => if (slotsOk mi 0 os && miOk mi os && os.length == n) = true then (bindO e1 os).bind fun bs => match F bs with
  | none => none
  | some (.ret b e2) => some (.ok (.b b) (putBack e2 mi e1))
  | some (.ex c e2) => some (.ex c (putBack e2 mi e1)) else none := tr rfl
@[simp] theorem x_slotsOk0 {mi : List (Nat × Nat)} {j : Nat} : slotsOk mi j [] = true := rfl
@[simp] theorem x_slotsOks {mi : List (Nat × Nat)} {j : Nat} {os : List O} : slotsOk mi j (.s i :: os) = (decide ((j, i) ∈ mi) && slotsOk mi (j + 1) os) := rfl
@[simp] theorem x_slotsOk1 {mi : List (Nat × Nat)} {j : Nat} {os : List O} : slotsOk mi j (.b (.fr d) :: os) = slotsOk mi (j + 1) os := rfl
@[simp] theorem x_slotsOk2 {mi : List (Nat × Nat)} {j : Nat} {os : List O} : slotsOk mi j (.b (.ex c) :: os) = slotsOk mi (j + 1) os := rfl
@[simp] theorem x_slotsOk3 {mi : List (Nat × Nat)} {j : Nat} {os : List O} {ns : List Int} : slotsOk mi j (.b (.sc ns) :: os) = slotsOk mi (j + 1) os := rfl
@[simp] theorem x_miOk0 {os : List O} : miOk [] os = true := rfl
@[simp] theorem x_miOk1 {os : List O} {j : Nat} {mi : List (Nat × Nat)} : miOk ((j, i) :: mi) os = ((match os[j]? with
  | some (.s k) => k == i
  | _ => false) && miOk mi os) := rfl
@[simp] theorem x_isFlat1 : isFlat .none = true := rfl
@[simp] theorem x_isFlat2 {b : Bool} : isFlat (.bool b) = true := rfl
@[simp] theorem x_isFlat3 {i : Int} : isFlat (.int i) = true := rfl
@[simp] theorem x_isFlat4 {x : Str} : isFlat (.str x) = true := rfl
@[simp] theorem x_fMth {g : List PyData → List PyData → Option (B × List PyData)} {fd : FD} : fMth i g fd e = match at? e i with
  | some (.ow _) => bnd (fd e) fun as e1 => match at? e1 i with
    | some (.ow ds) => (g ds as).bind fun p => some (.ok (.b p.1) (e1.set i (some (.ow p.2))))
    | _ => none
  | _ => none := tr rfl
@[simp] theorem x_fScLen {fa : FE} : fScLen fa e = bnd (fa e) fun o e1 => match bOf e1 o with
  | some (.sc ns) => okD (.int ns.length) e1
  | _ => none := tr rfl
@[simp] theorem x_fScIx {fa fb : FE} : fScIx fa fb e = bnd (fa e) fun o e1 => bnd (fb e1) fun o2 e2 => match bOf e2 o, res e2 o2 with
  | some (.sc ns), some (.int i) => (atI ns i).bind fun n => okD (.int n) e2
  | _, _ => none := tr rfl
@[simp] theorem x_bOfs : bOf e (.s i) = at? e i := rfl
@[simp] theorem x_bOfb : bOf e (.b b) = some b := rfl
@[simp] theorem x_iRange1 {f : FE} : iRange1 f e = bnd (f e) fun o e1 => match res e1 o with
  | some (.int j) => if lim j = true then some (.ok (rngN 0 j.toNat) e1) else none
  | _ => none := tr rfl
@[simp] theorem x_iRange2 {f g : FE} : iRange2 f g e = bnd (f e) fun o e1 => bnd (g e1) fun o2 e2 => match res e2 o, res e2 o2 with
  | some (.int i), some (.int j) => if lim i = true ∧ lim j = true then some (.ok (rngN i (j - i).toNat) e2) else none
  | _, _ => none := tr rfl
@[simp] theorem x_gN : gN i d e = some (e.set i (some (.fr d))) := tr rfl
@[simp] theorem x_fListRg1 {fa : FE} : fListRg1 fa e = bnd (fa e) fun o e1 => match res e1 o with
  | some (.int j) => if rgOk 0 j = true then some (.ok (.b (.ow (rngN 0 j.toNat))) e1) else none
  | _ => none := tr rfl
@[simp] theorem x_fLc {fi : FI} {g : FG} {t : FT} {f : FE} {vs : List Nat} : fLc fi g t f vs e = bnd (fi e) fun ds e1 => fLcL g t f vs ds [] (forget vs e1) := tr rfl
@[simp] theorem x_tTrue : tTrue e = some (.ok true e) := tr rfl
@[simp] theorem x_sPut2 {fx fy : FE} {j : Nat} {fd : FD} : sPut2 i fx j fy fd e = bndS (fd e) fun ds e1 => match ds with
  | [a, b] => bndS (putAt i fx a e1) fun _ e2 => bndS (putAt j fy b e2) fun _ e3 => some (.nx e3)
  | _ => none := tr rfl
@[simp] theorem x_sPut {fx fv : FE} : sPut i fx fv e = bndS (fv e) fun o e1 => (fz e1 o).bind fun p => bndS (putAt i fx p.1 p.2) fun _ e2 => some (.nx e2) := tr rfl
@[simp] theorem x_putAt {f : FE} : putAt i f d e = match at? e i with
  | none => none
  | some _ => bnd (f e) fun o e1 => match res e1 o, at? e1 i with
    | some (.int k), some (.ow ds) => (ixN ds.length k).bind fun j => some (.ok () (e1.set i (some (.ow (ds.set j d)))))
    | _, _ => none := tr rfl
@[simp] theorem x_sNewP : sNewP i e = some (.nx (e.set i (some (.rs 1 (.list []))))) := tr rfl
@[simp] theorem x_sAppP {fd : FD} : sAppP i fd e = match at? e i with
  | some (.rs 1 _) => bndS (fd e) fun ds e1 => match ds, at? e1 i with
    | [.int a, .int b, .int c], some (.rs 1 (.list l)) => if l.length < big then some (.nx (e1.set i (some (.rs 1 (.list (l ++ [encP (a, b, c)])))))) else none
    | _, _ => none
  | _ => none := tr rfl
@[simp] theorem x_fDeck : fDeck i e = match at? e i with
  | some (.rs 1 (.list l)) => some (.ok (.b (.rs 0 (.list [.list l, .int 0]))) (e.set i none))
  | _ => none := tr rfl
@[simp] theorem x_oAddI {i j : Int} : oAdd (.int i) (.int j) = some (.fr (.int (i + j))) := tr rfl
@[simp] theorem x_opI0 {g : Int → Int → Int} {i j : Int} : opI0 g (.int i) (.int j) = some (.fr (.int (g i j))) := tr rfl
@[simp] theorem x_opB0 {g : Int → Int → Bool} {i j : Int} : opB0 g (.int i) (.int j) = some (.fr (.bool (g i j))) := tr rfl
@[simp] theorem x_opI {C : Int → Int → Bool} {g : Int → Int → Int} {i j : Int} : opI C g (.int i) (.int j) = if C i j = true then some (.fr (.int (g i j))) else none := tr rfl
@[simp] theorem x_oMulI {i j : Int} : oMul (.int i) (.int j) = if cMul i j = true then some (.fr (.int (i * j))) else none := tr rfl
@[simp] theorem x_gInt1 {i : Int} : gInt [.int i] = some (.fr (.int i)) := tr rfl
@[simp] theorem x_gInt2 {b : Bool} : gInt [.bool b] = some (.fr (.int (if b then 1 else 0))) := tr rfl
@[simp] theorem x_gMax2 {i j : Int} : gMax [.int i, .int j] = some (.fr (.int (if j > i then j else i))) := tr rfl
@[simp] theorem x_gMin2 {i j : Int} : gMin [.int i, .int j] = some (.fr (.int (if j < i then j else i))) := tr rfl
@[simp] theorem x_gLenL {ds : List PyData} : gLen [.list ds] = some (.fr (.int ds.length)) := tr rfl
@[simp] theorem x_gListL {ds : List PyData} : gList [.list ds] = some (.ow ds) := tr rfl
@[simp] theorem x_oRevL {ds : List PyData} : oRev (.list ds) = some (.ow ds.reverse) := tr rfl
@[simp] theorem x_oIxL {ds : List PyData} {i : Int} : oIx (.list ds) (.int i) = (atI ds i).map .fr := tr rfl
@[simp] theorem x_oEqI {i j : Int} : oEq (.int i) (.int j) = some (.fr (.bool (decide (i = j)))) := by
  have h : ∀ k : Int, SeqAt.shaped (.int k) = true := fun k => by
    unfold SeqAt.shaped
    rw [PyData.canLay0, PyData.depth]
    rfl
  unfold oEq
  rw [if_pos ⟨h i, h j⟩, PyData.eqv]
  rfl
end
theorem seq_nx {f g : FS} {e e1 : VL.Env} (h : f e = some (.nx e1)) : sSeq f g e = g e1 := by
  unfold sSeq
  rw [h]
theorem forL_nil {g : FG} {body : FS} {dead : List Nat} {e : VL.Env} : sForL g body dead [] e = some (.nx (forget dead e)) := tr rfl
theorem forL_nx {g : FG} {body : FS} {dead : List Nat} {d : PyData} {ds : List PyData} {e e1 e2 : VL.Env} (hg : g d e = some e1) (hb : body e1 = some (.nx e2)) : sForL g body dead (d :: ds) e = sForL g body dead ds (forget dead e2) := by
  rw [sForL, hg]
  show (match body e1 with
      | some (.nx e2) => sForL g body dead ds (forget dead e2)
      | some (.ct e2) => sForL g body dead ds (forget dead e2)
      | some (.bk e2) => some (.nx (forget dead e2))
      | some (.rt b e2) => some (.rt b e2)
      | some (.ex c e2) => some (.ex c e2)
      | none => none) = _
  rw [hb]
theorem runF_rt {g : FS} {n : Nat} {bs : List B} {e e' : VL.Env} {b : B} (he : bs.map some ++ List.replicate (n - bs.length) none = e) (h : g e = some (.rt b e')) : runF g n bs = some (.ret b e') := by
  unfold runF
  rw [he, h]
theorem runF_nx {g : FS} {n : Nat} {bs : List B} {e e' : VL.Env} (he : bs.map some ++ List.replicate (n - bs.length) none = e) (h : g e = some (.nx e')) : runF g n bs = some (.ret (.fr .none) e') := by
  unfold runF
  rw [he, h]
theorem runF_ex {g : FS} {n : Nat} {bs : List B} {e e' : VL.Env} {c : Str} (he : bs.map some ++ List.replicate (n - bs.length) none = e) (h : g e = some (.ex c e')) : runF g n bs = some (.ex c e') := by
  unfold runF
  rw [he, h]
theorem asInts_map : ∀ ns : List Int, asInts (ns.map .int) = some ns
  | [] => rfl
  | n :: ns => by
    show (asInts (ns.map .int)).map (n :: ·) = some (n :: ns)
    rw [asInts_map ns]
    rfl
end VL

set_option maxRecDepth 100000
/-! VM: what is computed, over Lean's own values. -/
namespace VL
open PySem L2 PySem.W PySem.SeqAt
/-! ### steps -/
section
variable {e e1 e2 e3 : VL.Env} {F : Fn} {n : Nat} {fa : FA} {os : List O} {bs : List B} {b : B} {d : PyData} {mi : List (Nat × Nat)} {c : Str}
theorem callP_ok (h1 : fa e = some (.ok os e1)) (h2 : flatO os = true) (h3 : lendO e1 os = some bs) (h4 : bs.length = n) (h5 : F bs = some (.ret (.fr d) e2)) (h6 : isFlat d = true) : fCallP F n fa e = some (.ok (.b (.fr d)) e1) := by
  unfold fCallP
  rw [h1, x_bnd_ok, if_pos h2, h3, Option.bind_some, if_pos h4, h5]
  show (if isFlat d = true then okD d e1 else none) = _
  rw [if_pos h6]
  rfl
theorem call_ok (h1 : fa e = some (.ok os e1)) (h2 : (slotsOk mi 0 os && miOk mi os && os.length == n) = true) (h3 : bindO e1 os = some bs) (h5 : F bs = some (.ret b e2)) : fCall F n mi fa e = some (.ok (.b b) (putBack e2 mi e1)) := by
  unfold fCall
  rw [h1, x_bnd_ok, if_pos h2, h3, Option.bind_some, h5]
theorem for_inv {g : FG} {body : FS} {dead : List Nat} (I : VL.Env → Prop) (hd : ∀ e, I e → forget dead e = e) : ∀ (ds : List PyData) (e : VL.Env), I e →
    (∀ d ∈ ds, ∀ e, I e → ∃ e1 e2, g d e = some e1 ∧ body e1 = some (.nx e2) ∧ I (forget dead e2)) → ∃ e', sForL g body dead ds e = some (.nx e') ∧ I e'
  | [], e, h, _ => ⟨e, by rw [forL_nil, hd e h], h⟩
  | d :: ds, e, h, k => by
    obtain ⟨e1, e2, h1, h2, h3⟩ := k d List.mem_cons_self e h
    rw [forL_nx h1 h2]
    exact for_inv I hd ds _ h3 fun d' hd' => k d' (List.mem_cons_of_mem _ hd')
/-- a loop over typed items that keeps a state -/
theorem for_fold {α S : Type} {g : FG} {body : FS} {dead : List Nat} (D : α → PyData) (E : S → VL.Env) (F : S → α → S) (hd : ∀ s, forget dead (E s) = E s) : ∀ (xs : List α) (s : S),
    (∀ (pre : List α) (x : α) (suf : List α), xs = pre ++ x :: suf → ∃ e1 e2, g (D x) (E (pre.foldl F s)) = some e1 ∧ body e1 = some (.nx e2) ∧ forget dead e2 = E (F (pre.foldl F s) x)) →
    sForL g body dead (xs.map D) (E s) = some (.nx (E (xs.foldl F s)))
  | [], s, _ => by
    show sForL g body dead [] (E s) = _
    rw [forL_nil, hd]
    rfl
  | x :: xs, s, k => by
    obtain ⟨e1, e2, h1, h2, h3⟩ := k [] x xs rfl
    have h1' : g (D x) (E s) = some e1 := h1
    show sForL g body dead (D x :: xs.map D) (E s) = _
    rw [forL_nx h1' h2, h3]
    exact for_fold D E F hd xs (F s x) fun pre y suf e => k (x :: pre) y suf (by rw [e]; rfl)
/-- a comprehension over typed items that keeps what stands around -/
theorem lcL_pure {α : Type} {g : FG} {t : FT} {f : FE} {vs : List Nat} (D : α → PyData) (E : VL.Env) (T : α → Bool) (R : α → PyData) : ∀ (xs : List α) (acc : List PyData), acc.length + xs.length ≤ big →
    (∀ x ∈ xs, ∃ e1 e2, g (D x) E = some e1 ∧ t e1 = some (.ok (T x) e2) ∧ (T x = false → forget vs e2 = E) ∧ (T x = true → ∃ o e3 e4, f e2 = some (.ok o e3) ∧ fz e3 o = some (R x, e4) ∧ forget vs e4 = E)) →
    fLcL g t f vs (xs.map D) acc E = some (.ok (.b (.ow (acc ++ (xs.filter T).map R))) E)
  | [], acc, _, _ => by
    show some (Out.ok (O.b (.ow acc)) E) = _
    simp
  | x :: xs, acc, hl, k => by
    obtain ⟨e1, e2, h1, h2, h3, h4⟩ := k x List.mem_cons_self
    have hl' : acc.length + (xs.length + 1) ≤ big := hl
    show fLcL g t f vs (D x :: xs.map D) acc E = _
    rw [fLcL, h1]
    dsimp only
    rw [h2]
    cases hT : T x with
    | false =>
      dsimp only
      rw [h3 hT, lcL_pure D E T R xs acc (by omega) fun y hy => k y (List.mem_cons_of_mem _ hy), List.filter_cons_of_neg (by rw [hT]; decide)]
    | true =>
      obtain ⟨o, e3, e4, g1, g2, g3⟩ := h4 hT
      dsimp only
      rw [g1]
      dsimp only
      rw [g2]
      dsimp only
      rw [if_pos (by omega), g3, lcL_pure D E T R xs (acc ++ [R x]) (by rw [List.length_append, List.length_singleton]; omega) fun y hy => k y (List.mem_cons_of_mem _ hy), List.filter_cons_of_pos hT, List.map_cons, List.append_assoc]
      rfl
end
/-! ### values -/
class Lay (α : Type) [DecidableEq α] [Datum α] : Prop where
  lay : ∀ a : α, (Datum.toD a).canLay0 = true
  small : Datum.depth α ≤ 64
instance : Lay Int := ⟨fun _ => by show (PyData.int _).canLay0 = true; rw [PyData.canLay0], by decide⟩
instance : Lay Bool := ⟨fun _ => by show (PyData.bool _).canLay0 = true; rw [PyData.canLay0], by decide⟩
theorem layAll {α : Type} [DecidableEq α] [Datum α] [Lay α] : ∀ xs : List α, PyData.canLayAll0 (xs.map Datum.toD) = true
  | [] => rfl
  | x :: xs => by
    rw [List.map_cons, PyData.canLayAll0, Lay.lay x, layAll xs]
    rfl
theorem lay_lst {α : Type} [DecidableEq α] [Datum α] [Lay α] (xs : List α) : (Datum.toD xs).canLay0 = true := by
  show (PyData.list (xs.map Datum.toD)).canLay0 = true
  rw [PyData.canLay0]
  exact layAll xs
instance : Lay (List Int) := ⟨lay_lst, by decide⟩
instance : Lay (List (List Int)) := ⟨lay_lst, by decide⟩
instance : Lay (List (List (List Int))) := ⟨lay_lst, by decide⟩
instance : Lay (List Bool) := ⟨lay_lst, by decide⟩
section
variable {α : Type} [DecidableEq α] [Datum α] [Lay α]
theorem shaped_toD (a : α) : shaped (Datum.toD a) = true := by
  unfold shaped
  rw [Lay.lay a, decide_eq_true (Nat.le_trans (Datum.depth_le a) Lay.small)]
  rfl
theorem o_eq (a b : α) : oEq (Datum.toD a) (Datum.toD b) = some (.fr (.bool (decide (a = b)))) := by
  unfold oEq
  rw [if_pos ⟨shaped_toD a, shaped_toD b⟩, Datum.eqv]
theorem o_ne (a b : α) : oNe (Datum.toD a) (Datum.toD b) = some (.fr (.bool (!decide (a = b)))) := by
  unfold oNe
  rw [if_pos ⟨shaped_toD a, shaped_toD b⟩, Datum.eqv]
theorem dlist (xs : List α) : Datum.toD xs = PyData.list (xs.map Datum.toD) := rfl
theorem g_len (xs : List α) : gLen [Datum.toD xs] = some (.fr (.int xs.length)) := by
  show some (B.fr (.int ((xs.map Datum.toD).length : Nat))) = _
  rw [List.length_map]
theorem atI_map {β γ : Type} (f : β → γ) (xs : List β) (i : Int) : atI (xs.map f) i = (atI xs i).map f := by
  unfold atI
  rw [List.length_map]
  cases ixN xs.length i with
  | none => rfl
  | some j => rw [Option.bind_some, Option.bind_some, List.getElem?_map]
theorem o_ix (xs : List α) (i : Int) : oIx (Datum.toD xs) (.int i) = (atI xs i).map fun x => .fr (Datum.toD x) := by
  show (atI (xs.map Datum.toD) i).map B.fr = _
  rw [atI_map, Option.map_map]
  rfl
theorem atI_get? {β : Type} {xs : List β} {j : Nat} {x : β} (h : xs[j]? = some x) : atI xs (j : Int) = some x := by
  unfold atI ixN
  have hj := (List.getElem?_eq_some_iff.mp h).1
  rw [if_pos (by omega), if_pos (by omega)]
  simpa using h
end
/-! ### decks -/
def DeckOk (d : PyData) : Prop := ∃ ps i, d = encD ps i ∧ 0 < ps.length ∧ 0 ≤ i
theorem draw_sem {d : PyData} {many : Int} (h : DeckOk d) (h1 : 0 < many) (h2 : many < 2 ^ 64) : ∃ v d', 0 ≤ v ∧ v < many ∧ DeckOk d' ∧ drawF [.rs 0 d, .fr (.int many)] = some (.ret (.fr (.int v)) [some (.rs 0 d')]) := by
  obtain ⟨ps, i, rfl, hp, hi⟩ := h
  have hm := Int.emod_nonneg i (b := (ps.length : Int)) (by omega)
  have hm2 := Int.emod_lt_of_pos i (b := (ps.length : Int)) (by omega)
  have hj : drawJ ps i < ps.length := by unfold drawJ; omega
  obtain ⟨v1, v2⟩ := drawP_nonneg (p := ps[drawJ ps i]) h1
  refine ⟨_, encD (ps.set (drawJ ps i) (drawP ps[drawJ ps i] many).2) (i + 1), v1, v2, ⟨_, _, rfl, by rw [List.length_set]; exact hp, by omega⟩, ?_⟩
  show (match decD (encD ps i) with
    | some (ps, i) => if drawOk ps i many = true then (ps[drawJ ps i]?).bind fun p => some (FR.ret (.fr (.int (drawP p many).1)) [some (.rs 0 (encD (ps.set (drawJ ps i) (drawP p many).2) (i + 1)))]) else none
    | none => none) = _
  rw [decD_enc]
  dsimp only
  rw [if_pos (show drawOk ps i many = true from drawOk_iff.mpr ⟨hp, hi, h1, h2⟩), List.getElem?_eq_getElem hj]
  rfl
end VL

set_option maxRecDepth 100000
namespace VP
open PySem L2 VL PySem.W PySem.SeqAt
theorem rg_small {n : Nat} (h : n ≤ 1000) : rgOk 0 (n : Int) = true := by
  unfold rgOk big
  rw [Bool.and_eq_true, Bool.and_eq_true, decide_eq_true_eq, decide_eq_true_eq, decide_eq_true_eq]
  omega
theorem lim_small {n : Nat} (h : n ≤ 1000) : lim (n : Int) = true := by
  unfold lim
  rw [decide_eq_true_eq]
  omega
def wholeD : PyData → Bool
  | .int _ => true
  | _ => false
theorem t_is_whole (d : PyData) : ∃ e, h_is_whole [.fr d] = some (.ret (.fr (.bool (wholeD d))) e) := by
  unfold h_is_whole runF b_is_whole
  cases d <;> exact ⟨_, rfl⟩
/-- the numbers from 0 on -/
def iota (n : Nat) : List Int := (List.range n).map fun (i : Nat) => (i : Int)
/-- just the numbers from 0 on -/
def IsOrd (n : Nat) (xs : List Int) : Prop := xs.Perm (iota n)
theorem IsOrd.length {n : Nat} {xs : List Int} (h : IsOrd n xs) : xs.length = n := by
  rw [List.Perm.length_eq h, iota, List.length_map, List.length_range]
theorem rngN0 (n : Nat) : rngN 0 n = (iota n).map Datum.toD := by
  unfold rngN iota
  rw [List.map_map]
  refine List.map_congr_left fun i _ => ?_
  show PyData.int (0 + (i : Int)) = PyData.int (i : Int)
  rw [Int.zero_add]
theorem asInts_toD (xs : List Int) : asInts (xs.map Datum.toD) = some xs := asInts_map xs
theorem sort_ord {n : Nat} {xs : List Int} (h : IsOrd n xs) : xs.mergeSort leI = iota n := by
  have trans : ∀ a b c : Int, leI a b = true → leI b c = true → leI a c = true := fun a b c h1 h2 => decide_eq_true (Int.le_trans (of_decide_eq_true h1) (of_decide_eq_true h2))
  have total : ∀ a b : Int, (leI a b || leI b a) = true := fun a b => by
    unfold leI
    rw [Bool.or_eq_true, decide_eq_true_eq, decide_eq_true_eq]
    exact Int.le_total a b
  have s1 := List.pairwise_mergeSort trans total xs
  have p1 : (xs.mergeSort leI).Perm (iota n) := (List.mergeSort_perm xs leI).trans h
  have s2 : (iota n).Pairwise fun a b => leI a b = true := by
    unfold iota
    rw [List.pairwise_map]
    exact (List.pairwise_lt_range).imp fun {a b} hab => decide_eq_true (by omega)
  exact p1.eq_of_pairwise (fun a b _ _ h1 h2 => Int.le_antisymm (of_decide_eq_true h1) (of_decide_eq_true h2)) s1 s2
theorem t_is_order {n : Nat} {xs : List Int} (h : IsOrd n xs) (h1 : 1 ≤ n) (h2 : n ≤ 12) : ∃ e, h_is_order [.fr (Datum.toD xs)] = some (.ret (.fr (.bool true)) e) := by
  have hl := h.length
  let E : VL.Env := [some (.fr (Datum.toD xs)), none]
  have c : (fLc (iSeq (fVar 0)) (gN 1) (tNot (fTest (fCallP h_is_whole 1 (aP (fVar 1) aNil)))) (fVar 1) [1]) E = some (.ok (.b (.ow [])) E) := by
    have k := lcL_pure (g := gN 1) (t := tNot (fTest (fCallP h_is_whole 1 (aP (fVar 1) aNil)))) (f := fVar 1) (vs := [1]) (Datum.toD : Int → PyData) E (fun _ => false) Datum.toD xs [] (by show 0 + xs.length ≤ big; rw [hl]; unfold big; omega) (fun x _ => by
      obtain ⟨e, he⟩ := t_is_whole (Datum.toD x)
      refine ⟨_, [some (.fr (Datum.toD xs)), some (.fr (Datum.toD x))], rfl, ?_, fun _ => rfl, fun z => by cases z⟩
      simp [E, he]
      rfl)
    rw [List.filter_eq_nil_iff.mpr (fun _ _ => by decide)] at k
    exact k
  have len : gLen [Datum.toD xs] = some (.fr (.int (n : Int))) := by rw [g_len, hl]
  have a1 : (sIf (tOr (tNot (fTest (fIsi .list (fVar 0)))) (tNot (fTest (fChain oLe oLe (fC (.int 1)) (fCB gLen (aCons (fVar 0) aNil)) (fC (.int 12)))))) (sRetO (fC (.bool false))) sNil) E = some (.nx E) := by
    have q1 : decide ((1 : Int) ≤ (n : Int)) = true := decide_eq_true (by omega)
    have q2 : decide ((n : Int) ≤ 12) = true := decide_eq_true (by omega)
    have q3 : isD .list (Datum.toD xs) = true := rfl
    simp [E, len, q1, q2, q3]
  have a2 : (sIf (fTest (fBin oNe (fLc (iSeq (fVar 0)) (gN 1) (tNot (fTest (fCallP h_is_whole 1 (aP (fVar 1) aNil)))) (fVar 1) [1]) (fLst dNil))) (sRetO (fC (.bool false))) sNil) E = some (.nx E) := by
    have q := o_ne ([] : List Int) []
    have q' : oNe (.list []) (.list []) = some (.fr (.bool false)) := q
    rw [x_sIf, x_fTest, x_fBin, c]
    simp [q']
  have a3 : (sRetO (fBin oEq (fCB gSorted (aCons (fVar 0) aNil)) (fListRg1 (fCB gLen (aCons (fVar 0) aNil))))) E = some (.rt (.fr (.bool true)) E) := by
    have q1 : gSorted [Datum.toD xs] = some (.ow ((iota n).map Datum.toD)) := by
      show (asInts (xs.map Datum.toD)).map (fun ns => B.ow ((ns.mergeSort leI).map .int)) = _
      rw [asInts_toD, Option.map_some, sort_ord h]
      rfl
    have q2 : rgOk 0 (n : Int) = true := rg_small (by omega)
    have q3 : oEq (.list ((iota n).map Datum.toD)) (.list ((iota n).map Datum.toD)) = some (.fr (.bool true)) := by
      rw [← dlist, o_eq]
      simp
    simp [E, len, q1, q2, rngN0, q3]
  unfold h_is_order
  refine ⟨E, runF_rt (e := E) rfl ?_⟩
  unfold b_is_order
  rw [seq_nx a1, seq_nx a2, a3]
theorem t_need_order {n : Nat} {xs : List Int} (h : IsOrd n xs) (h1 : 1 ≤ n) (h2 : n ≤ 12) : ∃ e, h_need_order [.fr (Datum.toD xs)] = some (.ret (.fr .none) e) := by
  obtain ⟨e, he⟩ := t_is_order h h1 h2
  unfold h_need_order
  refine ⟨[some (.fr (Datum.toD xs))], runF_nx (e := [some (.fr (Datum.toD xs))]) rfl ?_⟩
  unfold b_need_order
  simp [he]
end VP

set_option maxRecDepth 100000
namespace VP
open PySem L2 VL PySem.W PySem.SeqAt
theorem rngNat (n : Nat) : rngN 0 n = (List.range n).map fun (i : Nat) => PyData.int (i : Int) := by
  unfold rngN
  refine List.map_congr_left fun i _ => ?_
  rw [Int.zero_add]
/-! ### the deck -/
def cellOf (ns : List Int) (i : Nat) : Int := ns.getD i 0
def plOf (ns : List Int) (i : Nat) : Pl := (cellOf ns i, (if decide (10 ^ 18 ≤ cellOf ns i) = true then 1 else 0), 31 * (i : Int))
def eDeck (ns : List Int) (ps : List Pl) : VL.Env := [some (.sc ns), some (.rs 1 (.list (ps.map encP))), none, none]
def bodyDeck : FS := (sSeq (sAsg 3 (fC (.int 0)))
  (sSeq (sIf (fTest (fBin oLt (fVar 2) (fScLen (fVar 0)))) (sAsg 3 (fScIx (fVar 0) (fVar 2))) sNil)
  (sAppP 1 (dCons (fVar 3) (dCons (fCB gInt (aCons (fBin oGe (fVar 3) (fBin oPow (fC (.int 10)) (fC (.int 18)))) aNil)) (dCons (fBin oMul (fC (.int 31)) (fVar 2)) dNil))))))
theorem foldl_len (ns : List Int) : ∀ (l : List Nat) (ps : List Pl), (l.foldl (fun s i => s ++ [plOf ns i]) ps).length = ps.length + l.length
  | [], ps => rfl
  | x :: l, ps => by
    rw [List.foldl_cons, foldl_len ns l, List.length_append, List.length_cons]
    simp
    omega
theorem deck_step (ns : List Int) (ps : List Pl) (i : Nat) (h : ps.length < 100) : bodyDeck ((eDeck ns ps).set 2 (some (.fr (.int (i : Int))))) = some (.nx [some (.sc ns), some (.rs 1 (.list ((ps ++ [plOf ns i]).map encP))), some (.fr (.int (i : Int))), some (.fr (.int (cellOf ns i)))]) := by
  have s1 : (sAsg 3 (fC (.int 0))) ((eDeck ns ps).set 2 (some (.fr (.int (i : Int))))) = some (.nx [some (.sc ns), some (.rs 1 (.list (ps.map encP))), some (.fr (.int (i : Int))), some (.fr (.int 0))]) := rfl
  have s2 : (sIf (fTest (fBin oLt (fVar 2) (fScLen (fVar 0)))) (sAsg 3 (fScIx (fVar 0) (fVar 2))) sNil) [some (.sc ns), some (.rs 1 (.list (ps.map encP))), some (.fr (.int (i : Int))), some (.fr (.int 0))] = some (.nx [some (.sc ns), some (.rs 1 (.list (ps.map encP))), some (.fr (.int (i : Int))), some (.fr (.int (cellOf ns i)))]) := by
    by_cases hi : i < ns.length
    · have q1 : decide ((i : Int) < (ns.length : Int)) = true := decide_eq_true (by omega)
      have q2 : atI ns (i : Int) = some (cellOf ns i) := by
        refine atI_get? ?_
        unfold cellOf
        rw [List.getD_eq_getElem?_getD, List.getElem?_eq_getElem hi]
        rfl
      simp [hi, q2]
    · have q1 : decide ((i : Int) < (ns.length : Int)) = false := decide_eq_false (by omega)
      have q2 : cellOf ns i = 0 := by
        unfold cellOf
        rw [List.getD_eq_getElem?_getD, List.getElem?_eq_none (by omega)]
        rfl
      simp [hi, q2]
  have s3 : (sAppP 1 (dCons (fVar 3) (dCons (fCB gInt (aCons (fBin oGe (fVar 3) (fBin oPow (fC (.int 10)) (fC (.int 18)))) aNil)) (dCons (fBin oMul (fC (.int 31)) (fVar 2)) dNil)))) [some (.sc ns), some (.rs 1 (.list (ps.map encP))), some (.fr (.int (i : Int))), some (.fr (.int (cellOf ns i)))] = some (.nx [some (.sc ns), some (.rs 1 (.list ((ps ++ [plOf ns i]).map encP))), some (.fr (.int (i : Int))), some (.fr (.int (cellOf ns i)))]) := by
    have q1 : cMul 31 (i : Int) = true := by
      unfold cMul
      rw [Bool.or_eq_true]
      exact .inl (by decide)
    have q2 : cPow 10 18 = true := by decide
    have q3 : (ps.map encP).length < big := by rw [List.length_map]; unfold big; omega
    rw [List.length_map] at q3
    simp [q1, q2, q3, plOf]
  unfold bodyDeck
  rw [seq_nx s1, seq_nx s2, s3]
theorem t__law_deck (ns : List Int) : ∃ d e, DeckOk d ∧ h__law_deck [.sc ns] = some (.ret (.rs 0 d) e) := by
  let n : Nat := max 1 (min 63 ns.length)
  have hn : 1 ≤ n ∧ n ≤ 63 := by show 1 ≤ max 1 (min 63 ns.length) ∧ max 1 (min 63 ns.length) ≤ 63; omega
  let ps : List Pl := (List.range n).foldl (fun s i => s ++ [plOf ns i]) []
  have hl : ps.length = n := by
    have := foldl_len ns (List.range n) []
    rw [List.length_range, List.length_nil, Nat.zero_add] at this
    exact this
  have a2 : (sFor (iRange1 (fCB gMax (aCons (fC (.int 1)) (aCons (fCB gMin (aCons (fC (.int 63)) (aCons (fScLen (fVar 0)) aNil))) aNil)))) (gN 2) bodyDeck [2, 3]) (eDeck ns []) = some (.nx (eDeck ns ps)) := by
    have it : (iRange1 (fCB gMax (aCons (fC (.int 1)) (aCons (fCB gMin (aCons (fC (.int 63)) (aCons (fScLen (fVar 0)) aNil))) aNil)))) (eDeck ns []) = some (.ok ((List.range n).map fun (i : Nat) => PyData.int (i : Int)) (eDeck ns [])) := by
      have q0 : (if (if (ns.length : Int) < 63 then (ns.length : Int) else 63) > 1 then (if (ns.length : Int) < 63 then (ns.length : Int) else 63) else 1) = (n : Int) := by
        show _ = ((max 1 (min 63 ns.length) : Nat) : Int)
        split <;> split at * <;> omega
      have q1 : lim (n : Int) = true := lim_small (by omega)
      simp [eDeck, q0, q1, rngNat]
    rw [x_sFor, it, x_bndS_ok]
    refine for_fold (fun (i : Nat) => PyData.int (i : Int)) (eDeck ns) (fun s i => s ++ [plOf ns i]) (fun s => rfl) (List.range n) [] fun pre x suf e => ⟨_, _, rfl, deck_step ns _ x ?_, rfl⟩
    rw [foldl_len]
    have h1 := congrArg List.length e
    rw [List.length_range, List.length_append, List.length_cons] at h1
    simp
    omega
  have a3 : (sRetO (fDeck 1)) (eDeck ns ps) = some (.rt (.rs 0 (encD ps 0)) [some (.sc ns), none, none, none]) := rfl
  refine ⟨encD ps 0, [some (.sc ns), none, none, none], ⟨ps, 0, rfl, by omega, by omega⟩, ?_⟩
  unfold h__law_deck
  refine runF_rt (e := [some (.sc ns), none, none, none]) rfl ?_
  show (sSeq (sNewP 1) (sSeq (sFor (iRange1 (fCB gMax (aCons (fC (.int 1)) (aCons (fCB gMin (aCons (fC (.int 63)) (aCons (fScLen (fVar 0)) aNil))) aNil)))) (gN 2) bodyDeck [2, 3]) (sRetO (fDeck 1)))) _ = _
  rw [seq_nx (e1 := eDeck ns []) rfl, seq_nx a2, a3]
end VP

set_option maxRecDepth 100000
namespace VP
open PySem L2 VL PySem.W PySem.SeqAt
theorem draw_at {e e1 e2 : VL.Env} {f : FE} {o : O} {i : Nat} {b : B} {d : PyData} {many : Int} (h0 : at? e i = some b) (hf : f e = some (.ok o e1)) (hz : fzB e1 o = some (.fr (.int many), e2)) (hd : at? e2 i = some (.rs 0 d)) (ok : DeckOk d) (h1 : 0 < many) (h2 : many < 2 ^ 64) :
    ∃ v d', 0 ≤ v ∧ v < many ∧ DeckOk d' ∧ fCall h__law_draw 2 [(0, i)] (aM i (aF f aNil)) e = some (.ok (.b (.fr (.int v))) (e2.set i (some (.rs 0 d')))) := by
  obtain ⟨v, d', v1, v2, ok', hF⟩ := draw_sem ok h1 h2
  refine ⟨v, d', v1, v2, ok', ?_⟩
  have hF' : h__law_draw [.rs 0 d, .fr (.int many)] = some (.ret (.fr (.int v)) [some (.rs 0 d')]) := hF
  simp [h0, hf, hz, hd, hF']
theorem atI_of {α : Type} {xs : List α} {i : Int} (h0 : 0 ≤ i) (h1 : i < xs.length) : atI xs i = some (xs[i.toNat]'(by omega)) := by
  have : i = (i.toNat : Int) := by omega
  conv => lhs; rw [this]
  exact atI_get? (List.getElem?_eq_getElem (by omega))
theorem ixN_of {n : Nat} {i : Int} (h0 : 0 ≤ i) (h1 : i < n) : ixN n i = some i.toNat := by
  unfold ixN
  rw [if_pos h0, if_pos h1]
theorem swap_perm {xs : List Int} {p q : Nat} (hp : p < xs.length) (hq : q < xs.length) : ((xs.set p xs[q]).set q xs[p]).Perm xs := List.set_set_perm hp hq
/-- x[p], x[q] = x[q], x[p] -/
theorem put2_swap {e : VL.Env} {i : Nat} {xs : List Int} {fp fq : FE} {p q : Int} {sp sq : O} (h : at? e i = some (.ow (xs.map Datum.toD))) (p0 : 0 ≤ p) (p1 : p < xs.length) (q0 : 0 ≤ q) (q1 : q < xs.length)
    (hp : ∀ e' : VL.Env, (∀ j, j ≠ i → at? e' j = at? e j) → ∃ o, fp e' = some (.ok o e') ∧ res e' o = some (.int p)) (hq : ∀ e' : VL.Env, (∀ j, j ≠ i → at? e' j = at? e j) → ∃ o, fq e' = some (.ok o e') ∧ res e' o = some (.int q)) :
    sPut2 i fp i fq (dCons (fBin oIx (fVar i) fq) (dCons (fBin oIx (fVar i) fp) dNil)) e = some (.nx (e.set i (some (.ow (((xs.set p.toNat (xs[q.toNat]'(by omega))).set q.toNat (xs[p.toNat]'(by omega))).map Datum.toD))))) := by
  obtain ⟨o1, a1, a2⟩ := hp e fun _ _ => rfl
  obtain ⟨o2, b1, b2⟩ := hq e fun _ _ => rfl
  have hi : i < e.length := by
    unfold at? at h
    cases q2 : e[i]? with
    | none => rw [q2] at h; cases h
    | some y => exact (List.getElem?_eq_some_iff.mp q2).1
  have g1 : atI (xs.map Datum.toD) p = some (Datum.toD (xs[p.toNat]'(by omega))) := by rw [atI_map, atI_of p0 p1]; rfl
  have g2 : atI (xs.map Datum.toD) q = some (Datum.toD (xs[q.toNat]'(by omega))) := by rw [atI_map, atI_of q0 q1]; rfl
  let e1 : VL.Env := e.set i (some (.ow ((xs.set p.toNat (xs[q.toNat]'(by omega))).map Datum.toD)))
  have he1 : at? e1 i = some (.ow ((xs.set p.toNat (xs[q.toNat]'(by omega))).map Datum.toD)) := at_set_lt hi
  have hne : ∀ j, j ≠ i → at? e1 j = at? e j := fun j hj => at_set_ne (Ne.symm hj)
  obtain ⟨o3, c1, c2⟩ := hq e1 hne
  have k1 : ixN xs.length p = some p.toNat := ixN_of p0 p1
  have k2 : ixN xs.length q = some q.toNat := ixN_of q0 q1
  have d1 : dCons (fBin oIx (fVar i) fq) (dCons (fBin oIx (fVar i) fp) dNil) e = some (.ok [Datum.toD (xs[q.toNat]'(by omega)), Datum.toD (xs[p.toNat]'(by omega))] e) := by
    simp [h, a1, a2, b1, b2, g1, g2]
  have d2 : putAt i fp (Datum.toD (xs[q.toNat]'(by omega))) e = some (.ok () e1) := by
    simp [h, a1, a2, k1, e1]
  have d3 : putAt i fq (Datum.toD (xs[p.toNat]'(by omega))) e1 = some (.ok () (e.set i (some (.ow (((xs.set p.toNat (xs[q.toNat]'(by omega))).set q.toNat (xs[p.toNat]'(by omega))).map Datum.toD))))) := by
    rw [x_putAt, he1]
    dsimp only
    rw [c1, x_bnd_ok, c2, he1]
    dsimp only
    rw [List.length_map, List.length_set, k2, Option.bind_some]
    show some (Out.ok () ((e.set i _).set i _)) = _
    rw [List.set_set, List.map_set (i := q.toNat)]
  rw [x_sPut2, d1, x_bndS_ok]
  dsimp only
  rw [d2, x_bndS_ok, d3, x_bndS_ok]
end VP

set_option maxRecDepth 100000
namespace VP
open PySem L2 VL PySem.W PySem.SeqAt
/-- deck, n, left, way -/
def eOrd (d : PyData) (n : Nat) (left : List Int) (way : Int) : VL.Env := [some (.rs 0 d), some (.fr (.int (n : Int))), some (.ow (left.map Datum.toD)), some (.fr (.int way)), none, none]
abbrev popE : FE := fMth 2 mPop (dCons (fCall h__law_draw 2 [(0, 0)] (aM 0 (aF (fCB gLen (aCons (fVar 2) aNil)) aNil))) dNil)
theorem lim63_small {i : Int} (h0 : 0 ≤ i) (h : i < 1000000) : lim63 i = true := by
  unfold lim63
  rw [decide_eq_true_eq]
  omega
theorem map_erase {α β : Type} (f : α → β) : ∀ (xs : List α) (j : Nat), (xs.map f).eraseIdx j = (xs.eraseIdx j).map f
  | [], _ => rfl
  | x :: xs, 0 => rfl
  | x :: xs, j + 1 => by
    show f x :: (xs.map f).eraseIdx j = f x :: (xs.eraseIdx j).map f
    rw [map_erase f xs j]
theorem pop_step {d : PyData} {n : Nat} {left : List Int} {way : Int} {x : Option B} (ok : DeckOk d) (h : 0 < left.length) (hl : left.length ≤ 1000) :
    ∃ (d' : PyData) (j : Nat) (hj : j < left.length), DeckOk d' ∧ popE [some (.rs 0 d), some (.fr (.int (n : Int))), some (.ow (left.map Datum.toD)), some (.fr (.int way)), x, none] = some (.ok (.b (.fr (.int left[j]))) [some (.rs 0 d'), some (.fr (.int (n : Int))), some (.ow ((left.eraseIdx j).map Datum.toD)), some (.fr (.int way)), x, none]) := by
  let e : VL.Env := [some (.rs 0 d), some (.fr (.int (n : Int))), some (.ow (left.map Datum.toD)), some (.fr (.int way)), x, none]
  have hf : fCB gLen (aCons (fVar 2) aNil) e = some (.ok (.b (.fr (.int (left.length : Int)))) e) := by simp [e]
  obtain ⟨v, d', v0, v1, ok', hc⟩ := draw_at (e := e) (i := 0) (e2 := e) (many := (left.length : Int)) rfl hf rfl rfl ok (by omega) (by omega)
  refine ⟨d', v.toNat, by omega, ok', ?_⟩
  have g1 : lim63 v = true := lim63_small v0 (by omega)
  have g2 : seqIndex? v left.length = some v.toNat := (ixN_seq (ixN_of v0 v1)).1
  have g3 : left[v.toNat]? = some (left[v.toNat]'(by omega)) := List.getElem?_eq_getElem (by omega)
  show fMth 2 mPop (dCons (fCall h__law_draw 2 [(0, 0)] (aM 0 (aF (fCB gLen (aCons (fVar 2) aNil)) aNil))) dNil) e = _
  have hd : dCons (fCall h__law_draw 2 [(0, 0)] (aM 0 (aF (fCB gLen (aCons (fVar 2) aNil)) aNil))) dNil e = some (.ok [.int v] (e.set 0 (some (.rs 0 d')))) := by
    rw [x_dCons, hc]
    rfl
  have hm : mPop (left.map Datum.toD) [.int v] = some (.fr (.int (left[v.toNat]'(by omega))), (left.eraseIdx v.toNat).map Datum.toD) := by
    unfold mPop
    dsimp only
    rw [if_pos g1, List.length_map, g2, Option.bind_some, List.getElem?_map, g3, map_erase]
    rfl
  have e2 : at? e 2 = some (.ow (left.map Datum.toD)) := rfl
  have e3 : at? (e.set 0 (some (.rs 0 d'))) 2 = some (.ow (left.map Datum.toD)) := rfl
  rw [x_fMth, e2]
  dsimp only
  rw [hd, x_bnd_ok, e3]
  dsimp only
  rw [hm]
  rfl
theorem erase_perm : ∀ {xs : List Int} {j : Nat} (hj : j < xs.length), (xs[j] :: xs.eraseIdx j).Perm xs
  | [], j, hj => by simp at hj
  | x :: xs, 0, _ => List.Perm.refl _
  | x :: xs, j + 1, hj => by
    have ih := erase_perm (xs := xs) (j := j) (by simpa using hj)
    exact (List.Perm.swap x (xs[j]'(by simpa using hj)) (xs.eraseIdx j)).trans (ih.cons x)
theorem pops {n : Nat} {way : Int} : ∀ (ds : List PyData) (d : PyData) (left acc : List Int), DeckOk d → ds.length = left.length → acc.length + left.length ≤ 1000 →
    ∃ (d' : PyData) (zs : List Int), DeckOk d' ∧ zs.Perm (acc ++ left) ∧ fLcL (gN 4) tTrue popE [4] ds (acc.map Datum.toD) (eOrd d n left way) = some (.ok (.b (.ow (zs.map Datum.toD))) (eOrd d' n [] way))
  | [], d, left, acc, ok, hl, _ => by
    have : left = [] := List.eq_nil_of_length_eq_zero hl.symm
    subst this
    exact ⟨d, acc, ok, by rw [List.append_nil], rfl⟩
  | x :: ds, d, left, acc, ok, hl, hb => by
    rw [List.length_cons] at hl
    obtain ⟨d', j, hj, ok', hp⟩ := pop_step (n := n) (way := way) (x := some (.fr x)) ok (left := left) (by omega) (by omega)
    have hlen : (left.eraseIdx j).length = left.length - 1 := by rw [List.length_eraseIdx_of_lt hj]
    obtain ⟨d'', zs, ok'', pz, hz⟩ := pops (n := n) (way := way) ds d' (left.eraseIdx j) (acc ++ [left[j]]) ok' (by omega) (by rw [List.length_append, hlen]; simp; omega)
    refine ⟨d'', zs, ok'', pz.trans ?_, ?_⟩
    · rw [List.append_assoc]
      exact List.Perm.append_left acc (erase_perm hj)
    · rw [fLcL]
      show (match popE [some (.rs 0 d), some (.fr (.int (n : Int))), some (.ow (left.map Datum.toD)), some (.fr (.int way)), some (.fr x), none] with
        | some (.ok o e3) => match fz e3 o with
          | some p => if (acc.map (Datum.toD : Int → PyData)).length < big then fLcL (gN 4) tTrue popE [4] ds (acc.map Datum.toD ++ [p.1]) (forget [4] p.2) else none
          | none => none
        | _ => none) = _
      rw [hp]
      dsimp only [x_fz_fr]
      rw [if_pos (by rw [List.length_map]; unfold big; omega)]
      have e1 : acc.map (Datum.toD : Int → PyData) ++ [.int left[j]] = (acc ++ [left[j]]).map Datum.toD := by rw [List.map_append]; rfl
      rw [e1]
      exact hz
theorem t__law_order {d : PyData} {n : Nat} (ok : DeckOk d) (h1 : 1 ≤ n) (h2 : n ≤ 12) : ∃ (xs : List Int) (d' : PyData) (e : VL.Env), IsOrd n xs ∧ DeckOk d' ∧ h__law_order [.rs 0 d, .fr (.int (n : Int))] = some (.ret (.ow (xs.map Datum.toD)) e) ∧ at? e 0 = some (.rs 0 d') := by
  let e0 : VL.Env := [some (.rs 0 d), some (.fr (.int (n : Int))), none, none, none, none]
  have q2 : rgOk 0 (n : Int) = true := rg_small (by omega)
  have ql : lim (n : Int) = true := lim_small (by omega)
  have s1 : (sOwn 2 (fListRg1 (fVar 1))) e0 = some (.nx [some (.rs 0 d), some (.fr (.int (n : Int))), some (.ow ((iota n).map Datum.toD)), none, none, none]) := by simp [e0, q2, rngN0]
  obtain ⟨way, d1, w0, w1, ok1, hc1⟩ := draw_at (e := [some (.rs 0 d), some (.fr (.int (n : Int))), some (.ow ((iota n).map Datum.toD)), none, none, none]) (i := 0) (f := fC (.int 4)) (many := 4) rfl rfl rfl rfl ok (by decide) (by decide)
  have s2 : (sAsg 3 (fCall h__law_draw 2 [(0, 0)] (aM 0 (aF (fC (.int 4)) aNil)))) [some (.rs 0 d), some (.fr (.int (n : Int))), some (.ow ((iota n).map Datum.toD)), none, none, none] = some (.nx (eOrd d1 n (iota n) way)) := by
    rw [x_sAsg, hc1]
    rfl
  unfold h__law_order
  by_cases hw : way = 0
  · obtain ⟨d2, zs, ok2, pz, hz⟩ := pops (n := n) (way := way) (rngN 0 n) d1 (iota n) [] ok1 (by rw [rngNat]; unfold iota; simp) (by unfold iota; simp; omega)
    have s3 : (sIf (fTest (fBin oEq (fVar 3) (fC (.int 0)))) (sRetO (fLc (iRange1 (fVar 1)) (gN 4) tTrue popE [4])) sNil) (eOrd d1 n (iota n) way) = some (.rt (.ow (zs.map Datum.toD)) (eOrd d2 n [] way)) := by
      have t : fTest (fBin oEq (fVar 3) (fC (.int 0))) (eOrd d1 n (iota n) way) = some (.ok true (eOrd d1 n (iota n) way)) := by simp [eOrd, hw]
      have i : iRange1 (fVar 1) (eOrd d1 n (iota n) way) = some (.ok (rngN 0 n) (eOrd d1 n (iota n) way)) := by simp [eOrd, ql]
      rw [x_sIf, t, x_bndS_ok]
      dsimp only
      rw [x_sRetO, x_fLc, i, x_bnd_ok]
      have hz' : fLcL (gN 4) tTrue popE [4] (rngN 0 n) [] (forget [4] (eOrd d1 n (iota n) way)) = some (.ok (.b (.ow (zs.map Datum.toD))) (eOrd d2 n [] way)) := hz
      rw [hz', x_bndS_ok]
    refine ⟨zs, d2, eOrd d2 n [] way, pz, ok2, runF_rt (e := e0) rfl ?_, rfl⟩
    unfold b__law_order
    rw [seq_nx s1, seq_nx s2, x_sSeq, s3]
  · have s3 : (sIf (fTest (fBin oEq (fVar 3) (fC (.int 0)))) (sRetO (fLc (iRange1 (fVar 1)) (gN 4) tTrue popE [4])) sNil) (eOrd d1 n (iota n) way) = some (.nx (eOrd d1 n (iota n) way)) := by simp [eOrd, hw]
    have s4 : ∃ left, IsOrd n left ∧ (sIf (fTest (fBin oEq (fVar 3) (fC (.int 1)))) (sOwn 2 (fUn oRev (fVar 2))) sNil) (eOrd d1 n (iota n) way) = some (.nx (eOrd d1 n left way)) := by
      by_cases hw1 : way = 1
      · refine ⟨(iota n).reverse, List.reverse_perm _, ?_⟩
        simp [eOrd, hw1]
      · exact ⟨iota n, List.Perm.refl _, by simp [eOrd, hw1]⟩
    obtain ⟨left, hleft, s4⟩ := s4
    obtain ⟨m, d2, m0, m1, ok2, hc2⟩ := draw_at (e := eOrd d1 n left way) (i := 0) (f := fC (.int 7)) (many := 7) rfl rfl rfl rfl ok1 (by decide) (by decide)
    have s5 : ∃ e', (sFor (iRange1 (fBin oMul (fCall h__law_draw 2 [(0, 0)] (aM 0 (aF (fC (.int 7)) aNil))) (fCB gInt (aCons (fBin oGt (fVar 1) (fC (.int 1))) aNil)))) (gN 4) (sSeq (sAsg 5 (fCall h__law_draw 2 [(0, 0)] (aM 0 (aF (fBin oSub (fVar 1) (fC (.int 1))) aNil))))
  (sPut2 2 (fVar 5) 2 (fBin oAdd (fVar 5) (fC (.int 1))) (dCons (fBin oIx (fVar 2) (fBin oAdd (fVar 5) (fC (.int 1)))) (dCons (fBin oIx (fVar 2) (fVar 5)) dNil)))) [4, 5]) (eOrd d1 n left way) = some (.nx e') ∧ ∃ d' left', DeckOk d' ∧ IsOrd n left' ∧ e' = eOrd d' n left' way := by
      have it : ∃ k : Nat, (1 < n ∨ k = 0) ∧ iRange1 (fBin oMul (fCall h__law_draw 2 [(0, 0)] (aM 0 (aF (fC (.int 7)) aNil))) (fCB gInt (aCons (fBin oGt (fVar 1) (fC (.int 1))) aNil))) (eOrd d1 n left way) = some (.ok (rngN 0 k) (eOrd d2 n left way)) := by
        have cm : cMul m (if decide (1 < n) = true then 1 else 0) = true := by
          unfold cMul
          rw [Bool.or_eq_true, decide_eq_true_eq]
          exact .inl (by omega)
        have hg : fCB gInt (aCons (fBin oGt (fVar 1) (fC (.int 1))) aNil) (eOrd d2 n left way) = some (.ok (.b (.fr (.int (if decide (1 < n) = true then 1 else 0)))) (eOrd d2 n left way)) := by
          by_cases hn : 1 < n
          · have h' : (1 : Int) < (n : Int) := by omega
            simp [eOrd, hn, h']
          · have h' : ¬ (1 : Int) < (n : Int) := by omega
            simp [eOrd, hn, h']
        have hm : fBin oMul (fCall h__law_draw 2 [(0, 0)] (aM 0 (aF (fC (.int 7)) aNil))) (fCB gInt (aCons (fBin oGt (fVar 1) (fC (.int 1))) aNil)) (eOrd d1 n left way) = some (.ok (.b (.fr (.int (m * (if decide (1 < n) = true then 1 else 0))))) (eOrd d2 n left way)) := by
          rw [x_fBin, hc2, x_bnd_ok]
          have e1 : (eOrd d1 n left way).set 0 (some (.rs 0 d2)) = eOrd d2 n left way := rfl
          rw [e1, hg, x_bnd_ok, x_res_b, x_res_b, x_dat1, x_dat1, Option.bind_some, Option.bind_some, x_oMulI, if_pos cm]
          rfl
        refine ⟨(m * (if decide (1 < n) = true then 1 else 0)).toNat, ?_, ?_⟩
        · by_cases hn : 1 < n
          · exact .inl hn
          · right
            rw [if_neg (by rw [decide_eq_true_eq]; exact hn)]
            simp
        · have lm : lim (m * (if decide (1 < n) = true then 1 else 0)) = true := by
            unfold lim
            rw [decide_eq_true_eq]
            split <;> omega
          rw [x_iRange1, hm, x_bnd_ok]
          simp only [x_res_b, x_dat1]
          rw [if_pos lm]
      obtain ⟨k, hk, it⟩ := it
      rw [x_sFor, it, x_bndS_ok]
      refine for_inv (fun e => ∃ d' left', DeckOk d' ∧ IsOrd n left' ∧ e = eOrd d' n left' way) (fun e ⟨_, _, _, _, h⟩ => by rw [h]; rfl) (rngN 0 k) _ ⟨d2, left, ok2, hleft, rfl⟩ fun x hx e ⟨d', left', ok', hl', he⟩ => ?_
      subst he
      have hn : 1 < n := by
        rcases hk with h | h
        · exact h
        · rw [h] at hx; simp [rngN] at hx
      have hlen := hl'.length
      have hs : fBin oSub (fVar 1) (fC (.int 1)) ((eOrd d' n left' way).set 4 (some (.fr x))) = some (.ok (.b (.fr (.int ((n : Int) - 1)))) ((eOrd d' n left' way).set 4 (some (.fr x)))) := by simp [eOrd]
      obtain ⟨p, d3, p0, p1, ok3, hc3⟩ := draw_at (e := (eOrd d' n left' way).set 4 (some (.fr x))) (i := 0) (many := (n : Int) - 1) rfl hs rfl rfl ok' (by omega) (by omega)
      have b1 : (sAsg 5 (fCall h__law_draw 2 [(0, 0)] (aM 0 (aF (fBin oSub (fVar 1) (fC (.int 1))) aNil)))) ((eOrd d' n left' way).set 4 (some (.fr x))) = some (.nx [some (.rs 0 d3), some (.fr (.int (n : Int))), some (.ow (left'.map Datum.toD)), some (.fr (.int way)), some (.fr x), some (.fr (.int p))]) := by
        rw [x_sAsg, hc3]
        rfl
      have b2 := put2_swap (e := [some (.rs 0 d3), some (.fr (.int (n : Int))), some (.ow (left'.map Datum.toD)), some (.fr (.int way)), some (.fr x), some (.fr (.int p))]) (i := 2) (xs := left') (fp := fVar 5) (fq := fBin oAdd (fVar 5) (fC (.int 1))) (p := p) (q := p + 1) (sp := .s 5) (sq := .s 5) rfl p0 (by omega) (by omega) (by omega)
        (fun e' h' => by
          have h5 : at? e' 5 = some (.fr (.int p)) := h' 5 (by decide)
          exact ⟨.s 5, by simp [h5], by simp [h5]⟩)
        (fun e' h' => by
          have h5 : at? e' 5 = some (.fr (.int p)) := h' 5 (by decide)
          exact ⟨.b (.fr (.int (p + 1))), by simp [h5], by simp⟩)
      refine ⟨_, _, rfl, by rw [seq_nx b1, b2], d3, _, ok3, (swap_perm (xs := left') (p := p.toNat) (q := (p + 1).toNat) (by omega) (by omega)).trans hl', rfl⟩
    obtain ⟨e', s5, d3, left', ok3, hl', rfl⟩ := s5
    refine ⟨left', d3, (eOrd d3 n left' way).set 2 none, hl', ok3, runF_rt (e := e0) rfl ?_, rfl⟩
    unfold b__law_order
    rw [seq_nx s1, seq_nx s2, seq_nx s3, seq_nx s4, seq_nx s5]
    rfl
end VP

set_option maxRecDepth 100000
namespace VP
open PySem L2 VL PySem.W PySem.SeqAt
theorem draw_c {e : VL.Env} {i : Nat} {d : PyData} {many : Int} (hd : at? e i = some (.rs 0 d)) (ok : DeckOk d) (h1 : 0 < many) (h2 : many < 2 ^ 64) :
    ∃ v d', 0 ≤ v ∧ v < many ∧ DeckOk d' ∧ fCall h__law_draw 2 [(0, i)] (aM i (aF (fC (.int many)) aNil)) e = some (.ok (.b (.fr (.int v))) (e.set i (some (.rs 0 d')))) :=
  draw_at (e2 := e) hd rfl rfl hd ok h1 h2
theorem t__law_things {d : PyData} (ok : DeckOk d) : ∃ (n : Nat) (d' : PyData) (e : VL.Env), 1 ≤ n ∧ n ≤ 12 ∧ DeckOk d' ∧ h__law_things [.rs 0 d] = some (.ret (.fr (.int (n : Int))) e) ∧ at? e 0 = some (.rs 0 d') := by
  obtain ⟨a, d1, a0, a1, ok1, c1⟩ := draw_c (e := [some (.rs 0 d)]) (i := 0) (many := 4) rfl ok (by decide) (by decide)
  obtain ⟨b, d2, b0, b1, ok2, c2⟩ := draw_c (e := [some (.rs 0 d1)]) (i := 0) (many := 8) rfl ok1 (by decide) (by decide)
  obtain ⟨c, d3, c0, c1', ok3, c3⟩ := draw_c (e := [some (.rs 0 d2)]) (i := 0) (many := 12) rfl ok2 (by decide) (by decide)
  obtain ⟨k, d4, k0, k1, ok4, c4⟩ := draw_c (e := [some (.rs 0 d3)]) (i := 0) (many := 4) rfl ok3 (by decide) (by decide)
  have hx : ∀ (v : Int) (e e' : VL.Env) (call : FE), call e = some (.ok (.b (.fr (.int v))) e') → fBin oAdd (fC (.int 1)) call e = some (.ok (.b (.fr (.int (1 + v)))) e') := fun v e e' call h => by
    rw [x_fBin, x_fC, x_bnd_ok, h]
    rfl
  have hl : fLst (dCons (fBin oAdd (fC (.int 1)) (fCall h__law_draw 2 [(0, 0)] (aM 0 (aF (fC (.int 4)) aNil)))) (dCons (fBin oAdd (fC (.int 1)) (fCall h__law_draw 2 [(0, 0)] (aM 0 (aF (fC (.int 8)) aNil)))) (dCons (fBin oAdd (fC (.int 1)) (fCall h__law_draw 2 [(0, 0)] (aM 0 (aF (fC (.int 12)) aNil)))) (dCons (fC (.int 12)) dNil)))) [some (.rs 0 d)] = some (.ok (.b (.ow [.int (1 + a), .int (1 + b), .int (1 + c), .int 12])) [some (.rs 0 d3)]) := by
    rw [x_fLst, x_dCons, hx _ _ _ _ c1, x_bnd_ok, x_fz_fr, Option.bind_some]
    dsimp only
    rw [show ([some (B.rs 0 d)] : VL.Env).set 0 (some (.rs 0 d1)) = [some (.rs 0 d1)] from rfl, x_dCons, hx _ _ _ _ c2, x_bnd_ok, x_fz_fr, Option.bind_some]
    dsimp only
    rw [show ([some (B.rs 0 d1)] : VL.Env).set 0 (some (.rs 0 d2)) = [some (.rs 0 d2)] from rfl, x_dCons, hx _ _ _ _ c3, x_bnd_ok, x_fz_fr, Option.bind_some]
    rfl
  have fin : ∀ n : Nat, 1 ≤ n → n ≤ 12 → atI ([.int (1 + a), .int (1 + b), .int (1 + c), .int 12] : List PyData) k = some (.int (n : Int)) → ∃ (n : Nat) (d' : PyData) (e : VL.Env), 1 ≤ n ∧ n ≤ 12 ∧ DeckOk d' ∧ h__law_things [.rs 0 d] = some (.ret (.fr (.int (n : Int))) e) ∧ at? e 0 = some (.rs 0 d') := fun n n1 n2 hn => by
    refine ⟨n, d4, [some (.rs 0 d4)], n1, n2, ok4, ?_, rfl⟩
    unfold h__law_things
    refine runF_rt (e := [some (.rs 0 d)]) rfl ?_
    unfold b__law_things
    rw [x_sRetO, x_fBin, hl, x_bnd_ok, c4, x_bnd_ok, x_res_b, x_res_b, x_dat1, x_dat2, Option.bind_some, Option.bind_some, x_oIxL, hn]
    rfl
  have hk : k = 0 ∨ k = 1 ∨ k = 2 ∨ k = 3 := by omega
  rcases hk with rfl | rfl | rfl | rfl
  · exact fin (1 + a).toNat (by omega) (by omega) (by rw [show (((1 + a).toNat : Nat) : Int) = 1 + a from by omega]; rfl)
  · exact fin (1 + b).toNat (by omega) (by omega) (by rw [show (((1 + b).toNat : Nat) : Int) = 1 + b from by omega]; rfl)
  · exact fin (1 + c).toNat (by omega) (by omega) (by rw [show (((1 + c).toNat : Nat) : Int) = 1 + c from by omega]; rfl)
  · exact fin 12 (by omega) (by omega) rfl
end VP

set_option maxRecDepth 100000
namespace VP
open PySem L2 VL PySem.W PySem.SeqAt
section
variable {α : Type} [DecidableEq α] [Datum α]
theorem cut_map {β γ : Type} (f : β → γ) (xs : List β) (lo hi : Option Int) : cutD (xs.map f) lo hi = (cutD xs lo hi).map f := by
  unfold cutD
  rw [List.length_map, ← List.map_drop, ← List.map_take]
theorem o_sl (xs : List α) (lo hi : Option Int) : oSl (.list (xs.map Datum.toD)) lo hi = some (.ow ((cutD xs lo hi).map Datum.toD)) := by
  show some (B.ow (cutD (xs.map Datum.toD) lo hi)) = _
  rw [cut_map]
theorem mem_cut {β : Type} {xs : List β} {lo hi : Option Int} {z : β} (h : z ∈ cutD xs lo hi) : z ∈ xs := List.mem_of_mem_drop (List.mem_of_mem_take h)
theorem len_cut {β : Type} (xs : List β) (lo hi : Option Int) : (cutD xs lo hi).length ≤ xs.length := by
  unfold cutD
  rw [List.length_take, List.length_drop]
  omega
theorem o_addL (xs ys : List α) (h : xs.length + ys.length ≤ big) : oAdd (.list (xs.map Datum.toD)) (.list (ys.map Datum.toD)) = some (.ow ((xs ++ ys).map Datum.toD)) := by
  show (if (xs.map (Datum.toD : α → PyData)).length + (ys.map Datum.toD).length ≤ big then some (B.ow (xs.map Datum.toD ++ ys.map Datum.toD)) else none) = _
  rw [List.length_map, List.length_map, if_pos h, List.map_append]
theorem o_rep (xs : List α) (k : Int) (h1 : k.natAbs < 2 ^ 63) (h2 : xs.length * k.toNat ≤ big) : oMul (.list (xs.map Datum.toD)) (.int k) = some (.ow ((List.replicate k.toNat xs).flatten.map Datum.toD)) := by
  show (if k.natAbs < 2 ^ 63 ∧ (xs.map (Datum.toD : α → PyData)).length * k.toNat ≤ big then some (B.ow (List.replicate k.toNat (xs.map Datum.toD)).flatten) else none) = _
  rw [List.length_map, if_pos ⟨h1, h2⟩, List.map_flatten, List.map_replicate]
theorem o_rev (xs : List α) : oRev (.list (xs.map Datum.toD)) = some (.ow (xs.reverse.map Datum.toD)) := by
  rw [x_oRevL, List.map_reverse]
end
theorem set_id {e : VL.Env} {i : Nat} {x : Option B} (h : at? e i = x) (hi : i < e.length) : e.set i x = e := by
  subst h
  apply List.ext_getElem?
  intro j
  by_cases hj : i = j
  · subst hj
    rw [List.getElem?_set_self hi]
    unfold at?
    rw [List.getElem?_eq_getElem hi]
  · rw [List.getElem?_set_ne hj]
theorem at_lt {e : VL.Env} {i : Nat} {b : B} (h : at? e i = some b) : i < e.length := by
  unfold at? at h
  cases q2 : e[i]? with
  | none => rw [q2] at h; cases h
  | some y => exact (List.getElem?_eq_some_iff.mp q2).1
/-- a comprehension of draws -/
theorem draws_lc {k i : Nat} {many : Int} {fm : FE} (P : VL.Env → Prop) (h1 : 0 < many) (h2 : many < 2 ^ 64) (hi : i ≠ k)
    (hP : ∀ (e : VL.Env) (x : Option B) (d' : PyData), P e → P (e.set i (some (.rs 0 d'))) ∧ P (e.set k x))
    (hm : ∀ e, P e → fm e = some (.ok (.b (.fr (.int many))) e)) : ∀ (ds : List PyData) (e : VL.Env) (d : PyData) (acc : List Int), P e → at? e i = some (.rs 0 d) → e.set k none = e → DeckOk d → acc.length + ds.length ≤ 1000 →
    ∃ (d' : PyData) (zs : List Int), DeckOk d' ∧ (∀ z ∈ zs, z ∈ acc ∨ (0 ≤ z ∧ z < many)) ∧ zs.length = acc.length + ds.length ∧ fLcL (gN k) tTrue (fCall h__law_draw 2 [(0, i)] (aM i (aF fm aNil))) [k] ds (acc.map Datum.toD) e = some (.ok (.b (.ow (zs.map Datum.toD))) (e.set i (some (.rs 0 d'))))
  | [], e, d, acc, p, hd, hk, ok, hb => ⟨d, acc, ok, fun z h => .inl h, by simp, by rw [set_id hd (at_lt hd)]; rfl⟩
  | x :: ds, e, d, acc, p, hd, hk, ok, hb => by
    have hd1 : at? (e.set k (some (.fr x))) i = some (.rs 0 d) := by rw [at_set_ne (Ne.symm hi)]; exact hd
    obtain ⟨v, d1, v0, v1, ok1, hc⟩ := draw_at (e := e.set k (some (.fr x))) (i := i) (many := many) hd1 (hm _ (hP e _ d p).2) rfl hd1 ok h1 h2
    have il := at_lt hd
    have e2 : ((e.set k (some (.fr x))).set i (some (.rs 0 d1))).set k none = e.set i (some (.rs 0 d1)) := by
      rw [List.set_comm _ _ hi, List.set_set, hk]
    have hb' : acc.length + (ds.length + 1) ≤ 1000 := hb
    obtain ⟨d2, zs, ok2, hz, hl, hr⟩ := draws_lc P h1 h2 hi hP hm ds (e.set i (some (.rs 0 d1))) d1 (acc ++ [v]) (hP e none d1 p).1 (at_set_lt il)
      (by rw [List.set_comm _ _ hi, hk]) ok1 (by rw [List.length_append, List.length_singleton]; omega)
    refine ⟨d2, zs, ok2, fun z h => ?_, by rw [hl, List.length_append, List.length_singleton, List.length_cons]; omega, ?_⟩
    · rcases hz z h with h | h
      · rcases List.mem_append.mp h with h | h
        · exact .inl h
        · rw [List.mem_singleton] at h
          subst h
          exact .inr ⟨v0, v1⟩
      · exact .inr h
    · rw [fLcL]
      show (match fCall h__law_draw 2 [(0, i)] (aM i (aF fm aNil)) (e.set k (some (.fr x))) with
        | some (.ok o e3) => match fz e3 o with
          | some p => if (acc.map (Datum.toD : Int → PyData)).length < big then fLcL (gN k) tTrue (fCall h__law_draw 2 [(0, i)] (aM i (aF fm aNil))) [k] ds (acc.map Datum.toD ++ [p.1]) (forget [k] p.2) else none
          | none => none
        | _ => none) = _
      rw [hc]
      dsimp only [x_fz_fr]
      rw [if_pos (by rw [List.length_map]; unfold big; omega), x_forget1, x_forget0, e2]
      have e1 : acc.map (Datum.toD : Int → PyData) ++ [.int v] = (acc ++ [v]).map Datum.toD := by rw [List.map_append]; rfl
      rw [e1, hr, List.set_set]
end VP

set_option maxRecDepth 100000
namespace VP
open PySem L2 VL PySem.W PySem.SeqAt
theorem o_neL {α : Type} [DecidableEq α] [Datum α] [Lay α] [Lay (List α)] (xs ys : List α) : oNe (.list (xs.map Datum.toD)) (.list (ys.map Datum.toD)) = some (.fr (.bool (!decide (xs = ys)))) := o_ne xs ys
theorem o_eqL {α : Type} [DecidableEq α] [Datum α] [Lay α] [Lay (List α)] (xs ys : List α) : oEq (.list (xs.map Datum.toD)) (.list (ys.map Datum.toD)) = some (.fr (.bool (decide (xs = ys)))) := o_eq xs ys
theorem o_ne0 : oNe (.list []) (.list []) = some (.fr (.bool false)) := o_ne ([] : List Int) []
/-- a comprehension over a list of one's own, that keeps what stands around -/
theorem lcPL_pure {α : Type} {i : Nat} {ds0 : List PyData} {g : FG} {t : FT} {f : FE} {vs : List Nat} (D : α → PyData) (E : VL.Env) (hE : at? E i = some (.ow ds0)) (T : α → Bool) (R : α → PyData) : ∀ (xs : List α) (acc : List PyData), acc.length + xs.length ≤ big →
    (∀ x ∈ xs, ∃ e1 e2, g (D x) E = some e1 ∧ t e1 = some (.ok (T x) e2) ∧ (T x = false → forget vs e2 = E) ∧ (T x = true → ∃ o e3 e4, f e2 = some (.ok o e3) ∧ fz e3 o = some (R x, e4) ∧ forget vs e4 = E)) →
    fLcPL i ds0 g t f vs (xs.map D) acc E = some (.ok (.b (.ow (acc ++ (xs.filter T).map R))) E)
  | [], acc, _, _ => by
    show fLcPL i ds0 g t f vs [] acc E = _
    rw [fLcPL, if_pos (keepD_of hE)]
    simp
  | x :: xs, acc, hl, k => by
    obtain ⟨e1, e2, h1, h2, h3, h4⟩ := k x List.mem_cons_self
    have hl' : acc.length + (xs.length + 1) ≤ big := hl
    show fLcPL i ds0 g t f vs (D x :: xs.map D) acc E = _
    rw [fLcPL, if_pos (keepD_of hE), h1]
    dsimp only
    rw [h2]
    cases hT : T x with
    | false =>
      dsimp only
      rw [h3 hT, lcPL_pure D E hE T R xs acc (by omega) fun y hy => k y (List.mem_cons_of_mem _ hy), List.filter_cons_of_neg (by rw [hT]; decide)]
    | true =>
      obtain ⟨o, e3, e4, g1, g2, g3⟩ := h4 hT
      dsimp only
      rw [g1]
      dsimp only
      rw [g2]
      dsimp only
      rw [if_pos (by omega), g3, lcPL_pure D E hE T R xs (acc ++ [R x]) (by rw [List.length_append, List.length_singleton]; omega) fun y hy => k y (List.mem_cons_of_mem _ hy), List.filter_cons_of_pos hT, List.map_cons, List.append_assoc]
      rfl
/-- neighbours exchanged -/
def swN : Nat → List Int → List Int
  | 0, a :: b :: r => b :: a :: r
  | k + 1, a :: r => a :: swN k r
  | _, l => l
theorem swN_len : ∀ (k : Nat) (l : List Int), (swN k l).length = l.length
  | 0, [] => rfl
  | 0, [a] => rfl
  | 0, a :: b :: r => rfl
  | k + 1, [] => rfl
  | k + 1, a :: r => by
    show (swN k r).length + 1 = r.length + 1
    rw [swN_len k r]
theorem swN_perm : ∀ (k : Nat) (l : List Int), (swN k l).Perm l
  | 0, [] => .refl _
  | 0, [a] => .refl _
  | 0, a :: b :: r => .swap a b r
  | k + 1, [] => .refl _
  | k + 1, a :: r => (swN_perm k r).cons a
theorem swN_set : ∀ (k : Nat) (l : List Int) (h : k + 1 < l.length), (l.set k l[k + 1]).set (k + 1) (l[k]'(by omega)) = swN k l
  | 0, a :: b :: r, _ => rfl
  | 0, [a], h => by simp at h
  | 0, [], h => by simp at h
  | k + 1, [], h => by simp at h
  | k + 1, a :: r, h => by
    have h' : k + 1 < r.length := by simpa using h
    show a :: (r.set k r[k + 1]).set (k + 1) (r[k]'(by omega)) = a :: swN k r
    rw [swN_set k r h']
theorem swN_ins : ∀ (k : Nat) (l : List Int) (h : k + 1 < l.length), (l.eraseIdx k).take (k + 1) ++ [l[k]'(by omega)] ++ (l.eraseIdx k).drop (k + 1) = swN k l
  | 0, a :: b :: r, _ => rfl
  | 0, [a], h => by simp at h
  | 0, [], h => by simp at h
  | k + 1, [], h => by simp at h
  | k + 1, a :: r, h => by
    have h' : k + 1 < r.length := by simpa using h
    show a :: ((r.eraseIdx k).take (k + 1) ++ [r[k]'(by omega)] ++ (r.eraseIdx k).drop (k + 1)) = a :: swN k r
    rw [swN_ins k r h']
def sw (l : List Int) (p : Int) : List Int := swN p.toNat l
theorem sw_fold_len : ∀ (ps : List Int) (l : List Int), (ps.foldl sw l).length = l.length
  | [], l => rfl
  | p :: ps, l => by
    rw [List.foldl_cons, sw_fold_len ps, sw, swN_len]
theorem sw_fold_perm : ∀ (ps : List Int) (l : List Int), (ps.foldl sw l).Perm l
  | [], l => .refl _
  | p :: ps, l => (sw_fold_perm ps (sw l p)).trans (swN_perm _ _)
end VP

set_option maxRecDepth 100000
namespace VP
open PySem L2 VL PySem.W PySem.SeqAt
/-- deck, order, found, n, way, thing, k, p, q -/
abbrev eN (d : PyData) (xs : List Int) (n : Nat) (f w t k p q : Option B) : VL.Env := [some (.rs 0 d), some (.fr (.list (xs.map Datum.toD))), f, some (.fr (.int (n : Int))), w, t, k, p, q]
theorem ins_perm (l : List Int) (j : Nat) (x : Int) : (l.take j ++ [x] ++ l.drop j).Perm (x :: l) := by
  have h1 : (l.take j ++ [x] ++ l.drop j).Perm (([x] ++ l.take j) ++ l.drop j) := List.Perm.append_right _ List.perm_append_comm
  refine h1.trans ?_
  rw [List.append_assoc, List.take_append_drop]
  exact .refl _
theorem t__law_near {d : PyData} {n : Nat} {xs : List Int} (ok : DeckOk d) (h : IsOrd n xs) (h1 : 1 ≤ n) (h2 : n ≤ 12) : ∃ (ys : List Int) (d' : PyData) (e : VL.Env), IsOrd n ys ∧ DeckOk d' ∧ h__law_near [.rs 0 d, .fr (.list (xs.map Datum.toD))] = some (.ret (.ow (ys.map Datum.toD)) e) ∧ at? e 0 = some (.rs 0 d') := by
  have hl := h.length
  let e0 : VL.Env := [some (.rs 0 d), some (.fr (.list (xs.map Datum.toD))), none, none, none, none, none, none, none]
  let F := some (B.ow (xs.map (Datum.toD : Int → PyData)))
  have s1 : (sOwn 2 (fCB gList (aCons (fVar 1) aNil))) e0 = some (.nx [some (.rs 0 d), some (.fr (.list (xs.map Datum.toD))), F, none, none, none, none, none, none]) := by simp [e0, F]
  have s2 : (sAsg 3 (fCB gLen (aCons (fVar 1) aNil))) [some (.rs 0 d), some (.fr (.list (xs.map Datum.toD))), F, none, none, none, none, none, none] = some (.nx (eN d xs n F none none none none none)) := by simp [eN, hl]
  obtain ⟨way, d1, w0, w1, ok1, c1⟩ := draw_c (e := eN d xs n F none none none none none) (i := 0) (many := 5) rfl ok (by decide) (by decide)
  let W := some (B.fr (.int way))
  have s3 : (sAsg 4 (fCall h__law_draw 2 [(0, 0)] (aM 0 (aF (fC (.int 5)) aNil)))) (eN d xs n F none none none none none) = some (.nx (eN d1 xs n F W none none none none)) := by
    rw [x_sAsg, c1]
    rfl
  unfold h__law_near
  by_cases hw0 : way = 0
  · obtain ⟨ys, d2, e2, hy, ok2, ho, he⟩ := t__law_order (n := n) ok1 h1 h2
    refine ⟨ys, d2, eN d2 xs n F W none none none none, hy, ok2, runF_rt (e := e0) rfl ?_, rfl⟩
    have s4 : (sIf (fTest (fBin oEq (fVar 4) (fC (.int 0)))) (sRetO (fCall h__law_order 2 [(0, 0)] (aM 0 (aF (fVar 3) aNil)))) sNil) (eN d1 xs n F W none none none none) = some (.rt (.ow (ys.map Datum.toD)) (eN d2 xs n F W none none none none)) := by
      simp [eN, W, hw0, ho, he]
    unfold b__law_near
    rw [seq_nx s1, seq_nx s2, seq_nx s3, x_sSeq, s4]
  have s4 : (sIf (fTest (fBin oEq (fVar 4) (fC (.int 0)))) (sRetO (fCall h__law_order 2 [(0, 0)] (aM 0 (aF (fVar 3) aNil)))) sNil) (eN d1 xs n F W none none none none) = some (.nx (eN d1 xs n F W none none none none)) := by simp [eN, W, hw0]
  by_cases hw1 : way = 1
  · refine ⟨xs.reverse, d1, eN d1 xs n F W none none none none, (List.reverse_perm xs).trans h, ok1, runF_rt (e := e0) rfl ?_, rfl⟩
    have s5 : (sIf (fTest (fBin oEq (fVar 4) (fC (.int 1)))) (sRetO (fUn oRev (fVar 2))) sNil) (eN d1 xs n F W none none none none) = some (.rt (.ow (xs.reverse.map Datum.toD)) (eN d1 xs n F W none none none none)) := by
      simp [eN, W, F, hw1]
    unfold b__law_near
    rw [seq_nx s1, seq_nx s2, seq_nx s3, seq_nx s4, x_sSeq, s5]
  have s5 : (sIf (fTest (fBin oEq (fVar 4) (fC (.int 1)))) (sRetO (fUn oRev (fVar 2))) sNil) (eN d1 xs n F W none none none none) = some (.nx (eN d1 xs n F W none none none none)) := by simp [eN, W, hw1]
  by_cases hw2 : way = 2
  · obtain ⟨p, d2, p0, p1, ok2, c2⟩ := draw_at (e := eN d1 xs n F W none none none none) (i := 0) (f := fVar 3) (o := .s 3) (e1 := eN d1 xs n F W none none none none) (e2 := eN d1 xs n F W none none none none) (many := (n : Int)) rfl rfl rfl rfl ok1 (by omega) (by omega)
    have hm : mPop (xs.map Datum.toD) [.int p] = some (.fr (.int (xs[p.toNat]'(by omega))), (xs.eraseIdx p.toNat).map Datum.toD) := by
      unfold mPop
      dsimp only
      rw [if_pos (lim63_small p0 (by omega)), List.length_map, (ixN_seq (ixN_of p0 (by omega : p < (xs.length : Int)))).1, Option.bind_some, List.getElem?_map, List.getElem?_eq_getElem (by omega), map_erase]
      rfl
    let T := some (B.fr (.int (xs[p.toNat]'(by omega))))
    let F2 := some (B.ow ((xs.eraseIdx p.toNat).map (Datum.toD : Int → PyData)))
    have a1 : (sAsg 5 (fMth 2 mPop (dCons (fCall h__law_draw 2 [(0, 0)] (aM 0 (aF (fVar 3) aNil))) dNil))) (eN d1 xs n F W none none none none) = some (.nx (eN d2 xs n F2 W T none none none)) := by
      have hd : dCons (fCall h__law_draw 2 [(0, 0)] (aM 0 (aF (fVar 3) aNil))) dNil (eN d1 xs n F W none none none none) = some (.ok [.int p] (eN d2 xs n F W none none none none)) := by
        rw [x_dCons, c2]
        rfl
      rw [x_sAsg, x_fMth]
      simp only [eN, F, x_at1, x_at0] at hd ⊢
      rw [hd]
      simp [hm, F2, T]
    obtain ⟨j, d3, j0, j1, ok3, c3⟩ := draw_at (e := eN d2 xs n F2 W T none none none) (i := 0) (f := fVar 3) (o := .s 3) (e1 := eN d2 xs n F2 W T none none none) (e2 := eN d2 xs n F2 W T none none none) (many := (n : Int)) rfl rfl rfl rfl ok2 (by omega) (by omega)
    let ys := (xs.eraseIdx p.toNat).take j.toNat ++ [xs[p.toNat]'(by omega)] ++ (xs.eraseIdx p.toNat).drop j.toNat
    have hi : mInsert ((xs.eraseIdx p.toNat).map Datum.toD) [.int j, .int (xs[p.toNat]'(by omega))] = some (.fr .none, ys.map Datum.toD) := by
      unfold mInsert
      dsimp only
      rw [if_pos ⟨by omega, by omega, by rw [List.length_map, List.length_eraseIdx_of_lt (by omega)]; unfold big; omega⟩, ← List.map_take, ← List.map_drop]
      show some _ = some (_, ((xs.eraseIdx p.toNat).take j.toNat ++ [xs[p.toNat]'(by omega)] ++ (xs.eraseIdx p.toNat).drop j.toNat).map Datum.toD)
      rw [List.map_append, List.map_append]
      rfl
    have a2 : (sExpr (fMth 2 mInsert (dCons (fCall h__law_draw 2 [(0, 0)] (aM 0 (aF (fVar 3) aNil))) (dCons (fVar 5) dNil)))) (eN d2 xs n F2 W T none none none) = some (.nx (eN d3 xs n (some (.ow (ys.map Datum.toD))) W T none none none)) := by
      have hd : dCons (fCall h__law_draw 2 [(0, 0)] (aM 0 (aF (fVar 3) aNil))) (dCons (fVar 5) dNil) (eN d2 xs n F2 W T none none none) = some (.ok [.int j, .int (xs[p.toNat]'(by omega))] (eN d3 xs n F2 W T none none none)) := by
        rw [x_dCons, c3]
        rfl
      rw [x_sExpr, x_fMth]
      simp only [eN, F2, x_at1, x_at0] at hd ⊢
      rw [hd]
      simp [hi]
    have hy : IsOrd n ys := (ins_perm _ _ _).trans ((erase_perm (by omega)).trans h)
    refine ⟨ys, d3, (eN d3 xs n (some (.ow (ys.map Datum.toD))) W T none none none).set 2 none, hy, ok3, runF_rt (e := e0) rfl ?_, rfl⟩
    have s6 : (sIf (fTest (fBin oEq (fVar 4) (fC (.int 2)))) (sSeq (sAsg 5 (fMth 2 mPop (dCons (fCall h__law_draw 2 [(0, 0)] (aM 0 (aF (fVar 3) aNil))) dNil)))
        (sSeq (sExpr (fMth 2 mInsert (dCons (fCall h__law_draw 2 [(0, 0)] (aM 0 (aF (fVar 3) aNil))) (dCons (fVar 5) dNil))))
        (sRetO (fVar 2)))) sNil) (eN d1 xs n F W none none none none) = some (.rt (.ow (ys.map Datum.toD)) ((eN d3 xs n (some (.ow (ys.map Datum.toD))) W T none none none).set 2 none)) := by
      have t : fTest (fBin oEq (fVar 4) (fC (.int 2))) (eN d1 xs n F W none none none none) = some (.ok true (eN d1 xs n F W none none none none)) := by simp [eN, W, hw2]
      rw [x_sIf, t, x_bndS_ok]
      dsimp only
      rw [seq_nx a1, seq_nx a2]
      rfl
    unfold b__law_near
    rw [seq_nx s1, seq_nx s2, seq_nx s3, seq_nx s4, seq_nx s5, x_sSeq, s6]
  have s6 : (sIf (fTest (fBin oEq (fVar 4) (fC (.int 2)))) (sSeq (sAsg 5 (fMth 2 mPop (dCons (fCall h__law_draw 2 [(0, 0)] (aM 0 (aF (fVar 3) aNil))) dNil)))
        (sSeq (sExpr (fMth 2 mInsert (dCons (fCall h__law_draw 2 [(0, 0)] (aM 0 (aF (fVar 3) aNil))) (dCons (fVar 5) dNil))))
        (sRetO (fVar 2)))) sNil) (eN d1 xs n F W none none none none) = some (.nx (eN d1 xs n F W none none none none)) := by simp [eN, W, hw2]
  obtain ⟨m, d2, m0, m1, ok2, c2⟩ := draw_c (e := eN d1 xs n F W none none none none) (i := 0) (many := 5) rfl ok1 (by decide) (by decide)
  have s7 : ∃ e', (sFor (iRange1 (fCall h__law_draw 2 [(0, 0)] (aM 0 (aF (fC (.int 5)) aNil)))) (gN 6) (sSeq (sAsg 7 (fCall h__law_draw 2 [(0, 0)] (aM 0 (aF (fVar 3) aNil))))
  (sSeq (sAsg 8 (fBin oIx (fLst (dCons (fCall h__law_draw 2 [(0, 0)] (aM 0 (aF (fVar 3) aNil))) (dCons (fCB gMin (aCons (fBin oSub (fVar 3) (fC (.int 1))) (aCons (fBin oAdd (fVar 7) (fC (.int 1))) aNil))) dNil))) (fBin oSub (fVar 4) (fC (.int 3)))))
  (sPut2 2 (fVar 7) 2 (fVar 8) (dCons (fBin oIx (fVar 2) (fVar 8)) (dCons (fBin oIx (fVar 2) (fVar 7)) dNil))))) [6, 7, 8]) (eN d1 xs n F W none none none none) = some (.nx e') ∧ ∃ (d' : PyData) (ys : List Int), DeckOk d' ∧ IsOrd n ys ∧ e' = eN d' xs n (some (.ow (ys.map Datum.toD))) W none none none none := by
    have it : iRange1 (fCall h__law_draw 2 [(0, 0)] (aM 0 (aF (fC (.int 5)) aNil))) (eN d1 xs n F W none none none none) = some (.ok (rngN 0 m.toNat) (eN d2 xs n F W none none none none)) := by
      have lm : lim m = true := by
        unfold lim
        rw [decide_eq_true_eq]
        omega
      rw [x_iRange1, c2, x_bnd_ok]
      simp only [x_res_b, x_dat1]
      rw [if_pos lm]
      rfl
    rw [x_sFor, it, x_bndS_ok]
    refine for_inv (fun e => ∃ (d' : PyData) (ys : List Int), DeckOk d' ∧ IsOrd n ys ∧ e = eN d' xs n (some (.ow (ys.map Datum.toD))) W none none none none) (fun e ⟨_, _, _, _, h⟩ => by rw [h]; rfl) _ _ ⟨d2, xs, ok2, h, rfl⟩ fun x _ e ⟨d', ys, ok', hy, he⟩ => ?_
    subst he
    have hyl := hy.length
    let Y := some (B.ow (ys.map (Datum.toD : Int → PyData)))
    let X := some (B.fr x)
    obtain ⟨p, d3, p0, p1, ok3, c3⟩ := draw_at (e := eN d' xs n Y W none X none none) (i := 0) (f := fVar 3) (o := .s 3) (e1 := eN d' xs n Y W none X none none) (e2 := eN d' xs n Y W none X none none) (many := (n : Int)) rfl rfl rfl rfl ok' (by omega) (by omega)
    let P := some (B.fr (.int p))
    have b1 : (sAsg 7 (fCall h__law_draw 2 [(0, 0)] (aM 0 (aF (fVar 3) aNil)))) (eN d' xs n Y W none X none none) = some (.nx (eN d3 xs n Y W none X P none)) := by
      rw [x_sAsg, c3]
      rfl
    obtain ⟨r, d4, r0, r1, ok4, c4⟩ := draw_at (e := eN d3 xs n Y W none X P none) (i := 0) (f := fVar 3) (o := .s 3) (e1 := eN d3 xs n Y W none X P none) (e2 := eN d3 xs n Y W none X P none) (many := (n : Int)) rfl rfl rfl rfl ok3 (by omega) (by omega)
    have b2 : ∃ q : Int, 0 ≤ q ∧ q < (n : Int) ∧ (sAsg 8 (fBin oIx (fLst (dCons (fCall h__law_draw 2 [(0, 0)] (aM 0 (aF (fVar 3) aNil))) (dCons (fCB gMin (aCons (fBin oSub (fVar 3) (fC (.int 1))) (aCons (fBin oAdd (fVar 7) (fC (.int 1))) aNil))) dNil))) (fBin oSub (fVar 4) (fC (.int 3))))) (eN d3 xs n Y W none X P none) = some (.nx (eN d4 xs n Y W none X P (some (.fr (.int q))))) := by
      let mn : Int := if p + 1 < (n : Int) - 1 then p + 1 else (n : Int) - 1
      have hl2 : fLst (dCons (fCall h__law_draw 2 [(0, 0)] (aM 0 (aF (fVar 3) aNil))) (dCons (fCB gMin (aCons (fBin oSub (fVar 3) (fC (.int 1))) (aCons (fBin oAdd (fVar 7) (fC (.int 1))) aNil))) dNil)) (eN d3 xs n Y W none X P none) = some (.ok (.b (.ow [.int r, .int mn])) (eN d4 xs n Y W none X P none)) := by
        have g : fCB gMin (aCons (fBin oSub (fVar 3) (fC (.int 1))) (aCons (fBin oAdd (fVar 7) (fC (.int 1))) aNil)) (eN d4 xs n Y W none X P none) = some (.ok (.b (.fr (.int mn))) (eN d4 xs n Y W none X P none)) := by simp [eN, P, mn]
        rw [x_fLst, x_dCons, c4, x_bnd_ok, x_fz_fr, Option.bind_some]
        dsimp only
        rw [show (eN d3 xs n Y W none X P none).set 0 (some (.rs 0 d4)) = eN d4 xs n Y W none X P none from rfl, x_dCons, g, x_bnd_ok]
        rfl
      have g2 : fBin oSub (fVar 4) (fC (.int 3)) (eN d4 xs n Y W none X P none) = some (.ok (.b (.fr (.int (way - 3)))) (eN d4 xs n Y W none X P none)) := by simp [eN, W]
      have hw34 : way = 3 ∨ way = 4 := by omega
      rcases hw34 with hw3 | hw4
      · refine ⟨r, r0, r1, ?_⟩
        rw [x_sAsg, x_fBin, hl2, x_bnd_ok, g2, hw3]
        rfl
      · have hmn : 0 ≤ mn ∧ mn < (n : Int) := by
          show 0 ≤ (if p + 1 < (n : Int) - 1 then p + 1 else (n : Int) - 1) ∧ (if p + 1 < (n : Int) - 1 then p + 1 else (n : Int) - 1) < (n : Int)
          split <;> omega
        refine ⟨mn, hmn.1, hmn.2, ?_⟩
        rw [x_sAsg, x_fBin, hl2, x_bnd_ok, g2, hw4]
        rfl
    obtain ⟨q, q0, q1, b2⟩ := b2
    have b3 := put2_swap (e := eN d4 xs n Y W none X P (some (.fr (.int q)))) (i := 2) (xs := ys) (fp := fVar 7) (fq := fVar 8) (p := p) (q := q) (sp := .s 7) (sq := .s 8) rfl p0 (by omega) q0 (by omega)
        (fun e' h' => by
          have h5 : at? e' 7 = some (.fr (.int p)) := h' 7 (by decide)
          exact ⟨.s 7, by simp [h5], by simp [h5]⟩)
        (fun e' h' => by
          have h5 : at? e' 8 = some (.fr (.int q)) := h' 8 (by decide)
          exact ⟨.s 8, by simp [h5], by simp [h5]⟩)
    exact ⟨_, _, rfl, (seq_nx b1).trans ((seq_nx b2).trans b3), d4, _, ok4, (swap_perm (xs := ys) (p := p.toNat) (q := q.toNat) (by omega) (by omega)).trans hy, rfl⟩
  obtain ⟨e', s7, d3, ys, ok3, hy, rfl⟩ := s7
  refine ⟨ys, d3, (eN d3 xs n (some (.ow (ys.map Datum.toD))) W none none none none).set 2 none, hy, ok3, runF_rt (e := e0) rfl ?_, rfl⟩
  unfold b__law_near
  rw [seq_nx s1, seq_nx s2, seq_nx s3, seq_nx s4, seq_nx s5, seq_nx s6, seq_nx s7]
  rfl
end VP

set_option maxRecDepth 100000
namespace VP
open PySem L2 VL PySem.W PySem.SeqAt
/-! ### from behind: at each thing's place where it stands -/
def tbF (s : List Int) (p : Nat × Int) : List Int := s.set p.2.toNat (p.1 : Int)
def enumN : Nat → List Int → List (Nat × Int)
  | _, [] => []
  | k, x :: xs => (k, x) :: enumN (k + 1) xs
theorem enumL_D : ∀ (k : Nat) (xs : List Int), enumL k (xs.map Datum.toD) = (enumN k xs).map fun p => PyData.tuple [.int (p.1 : Int), .int p.2]
  | _, [] => rfl
  | k, x :: xs => by
    show _ :: enumL (k + 1) (xs.map Datum.toD) = _ :: ((enumN (k + 1) xs).map fun p => PyData.tuple [.int (p.1 : Int), .int p.2])
    rw [enumL_D (k + 1) xs]
    rfl
/-- the list with at each thing's place where it stands -/
def backL (n : Nat) (xs : List Int) : List Int := (enumN 0 xs).foldl tbF (List.replicate n 0)
theorem tb_len : ∀ (l : List (Nat × Int)) (s : List Int), (l.foldl tbF s).length = s.length
  | [], s => rfl
  | p :: l, s => by rw [List.foldl_cons, tb_len l, tbF, List.length_set]
theorem tb_other : ∀ (xs : List Int) (k : Nat) (s : List Int) (j : Nat), (∀ x ∈ xs, x.toNat ≠ j) → ((enumN k xs).foldl tbF s)[j]? = s[j]?
  | [], _, _, _, _ => rfl
  | x :: xs, k, s, j, h => by
    show ((enumN (k + 1) xs).foldl tbF (s.set x.toNat (k : Int)))[j]? = s[j]?
    rw [tb_other xs (k + 1) _ j fun y hy => h y (List.mem_cons_of_mem _ hy), List.getElem?_set_ne (h x List.mem_cons_self)]
theorem tb_get : ∀ (xs : List Int) (k : Nat) (s : List Int), (∀ x ∈ xs, 0 ≤ x ∧ x < (s.length : Int)) → xs.Nodup → ∀ (i : Nat) (x : Int), xs[i]? = some x → ((enumN k xs).foldl tbF s)[x.toNat]? = some ((k + i : Nat) : Int)
  | [], _, _, _, _, i, x, h => by simp at h
  | y :: xs, k, s, hb, nd, i, x, h => by
    show ((enumN (k + 1) xs).foldl tbF (s.set y.toNat (k : Int)))[x.toNat]? = _
    obtain ⟨n1, n2⟩ := List.nodup_cons.mp nd
    cases i with
    | zero =>
      cases h
      have hy := hb y List.mem_cons_self
      rw [tb_other xs (k + 1) _ y.toNat fun z hz e => n1 (by
        have := (hb z (List.mem_cons_of_mem _ hz)).1
        have e2 : z = y := by omega
        rw [← e2]; exact hz), List.getElem?_set_self (by omega)]
      rfl
    | succ i =>
      have h' : xs[i]? = some x := by simpa using h
      rw [tb_get xs (k + 1) (s.set y.toNat (k : Int)) (fun z hz => by rw [List.length_set]; exact hb z (List.mem_cons_of_mem _ hz)) n2 i x h']
      congr 2
      omega
theorem IsOrd.mem {n : Nat} {xs : List Int} (h : IsOrd n xs) {x : Int} (hx : x ∈ xs) : 0 ≤ x ∧ x < (n : Int) := by
  have := h.mem_iff.mp hx
  unfold iota at this
  obtain ⟨i, hi, rfl⟩ := List.mem_map.mp this
  have := List.mem_range.mp hi
  omega
theorem iota_nodup (n : Nat) : (iota n).Nodup := by
  unfold iota
  exact List.pairwise_map.mpr (List.nodup_range.imp fun {a b} hab h => hab (by omega))
theorem IsOrd.nodup {n : Nat} {xs : List Int} (h : IsOrd n xs) : xs.Nodup := h.nodup_iff.mpr (iota_nodup n)
theorem back_get {n : Nat} {xs : List Int} (h : IsOrd n xs) {i : Nat} {x : Int} (hx : xs[i]? = some x) : (backL n xs)[x.toNat]? = some (i : Int) := by
  have := tb_get xs 0 (List.replicate n 0) (fun y hy => by rw [List.length_replicate]; exact h.mem hy) h.nodup i x hx
  rw [Nat.zero_add] at this
  exact this
theorem backL_len (n : Nat) (xs : List Int) : (backL n xs).length = n := by
  unfold backL
  rw [tb_len, List.length_replicate]
theorem rep_flat {α : Type} (x : α) : ∀ k : Nat, (List.replicate k [x]).flatten = List.replicate k x
  | 0 => rfl
  | k + 1 => by
    rw [List.replicate_succ, List.flatten_cons, rep_flat x k, List.replicate_succ]
    rfl
theorem t_turned_back {n : Nat} {xs : List Int} (h : IsOrd n xs) (h2 : n ≤ 12) : ∃ e, h_turned_back [.fr (.list (xs.map Datum.toD))] = some (.ret (.ow ((backL n xs).map Datum.toD)) e) := by
  have hl := h.length
  let X := some (B.fr (.list (xs.map (Datum.toD : Int → PyData))))
  have s1 : (sOwn 1 (fBin oMul (fLst (dCons (fC (.int 0)) dNil)) (fCB gLen (aCons (fVar 0) aNil)))) [X, none, none, none] = some (.nx [X, some (.ow ((List.replicate n (0 : Int)).map Datum.toD)), none, none]) := by
    have hr := o_rep ([0] : List Int) (n : Int) (by omega) (by show 1 * (n : Int).toNat ≤ big; unfold big; omega)
    have e1 : (List.replicate (n : Int).toNat ([0] : List Int)).flatten = List.replicate n 0 := by
      rw [Int.toNat_natCast, rep_flat]
    rw [e1] at hr
    have hr' : oMul (.list [.int 0]) (.int (n : Int)) = some (.ow ((List.replicate n (0 : Int)).map Datum.toD)) := hr
    simp [X, hl, hr']
  have s2 : (sFor (iEnumr (fVar 0)) (gT2 2 3) (sPut 1 (fVar 3) (fVar 2)) [2, 3]) [X, some (.ow ((List.replicate n (0 : Int)).map Datum.toD)), none, none] = some (.nx [X, some (.ow ((backL n xs).map Datum.toD)), none, none]) := by
    have it : iEnumr (fVar 0) [X, some (.ow ((List.replicate n (0 : Int)).map Datum.toD)), none, none] = some (.ok (enumL 0 (xs.map Datum.toD)) [X, some (.ow ((List.replicate n (0 : Int)).map Datum.toD)), none, none]) := rfl
    rw [x_sFor, it, x_bndS_ok, enumL_D]
    refine for_fold (dead := [2, 3]) (fun p : Nat × Int => PyData.tuple [.int (p.1 : Int), .int p.2]) (fun s => [X, some (.ow (s.map Datum.toD)), none, none]) tbF (fun s => rfl) (enumN 0 xs) (List.replicate n 0) fun pre p suf e => ?_
    have hp : p.2 ∈ xs := by
      have hm : ∀ (k : Nat) (l : List Int) (q : Nat × Int), q ∈ enumN k l → q.2 ∈ l := by
        intro k l
        induction l generalizing k with
        | nil => intro q hq; simp [enumN] at hq
        | cons y l ih =>
          intro q hq
          rcases List.mem_cons.mp hq with rfl | hq
          · exact List.mem_cons_self
          · exact List.mem_cons_of_mem _ (ih _ q hq)
      exact hm 0 xs p (by rw [e]; simp)
    obtain ⟨g1, g2⟩ := h.mem hp
    have hfl := tb_len pre (List.replicate n 0)
    rw [List.length_replicate] at hfl
    generalize pre.foldl tbF (List.replicate n 0) = s at hfl
    refine ⟨[X, some (.ow (s.map Datum.toD)), some (.fr (.int (p.1 : Int))), some (.fr (.int p.2))], [X, some (.ow ((tbF s p).map Datum.toD)), some (.fr (.int (p.1 : Int))), some (.fr (.int p.2))], rfl, ?_, rfl⟩
    have k1 : ixN s.length p.2 = some p.2.toNat := ixN_of g1 (by omega)
    have em : (tbF s p).map (Datum.toD : Int → PyData) = (s.map Datum.toD).set p.2.toNat (.int (p.1 : Int)) := by
      unfold tbF
      rw [List.map_set]
      rfl
    rw [em]
    simp [k1]
  refine ⟨[X, none, none, none], ?_⟩
  unfold h_turned_back
  refine runF_rt (e := [X, none, none, none]) rfl ?_
  unfold b_turned_back
  rw [seq_nx s1, seq_nx s2]
  rfl
theorem t_back_of {n : Nat} {xs : List Int} (h : IsOrd n xs) (h1 : 1 ≤ n) (h2 : n ≤ 12) : ∃ e, h_back_of [.fr (.list (xs.map Datum.toD))] = some (.ret (.ow ((backL n xs).map Datum.toD)) e) := by
  obtain ⟨e1, q1⟩ := t_need_order h h1 h2
  have q1' : h_need_order [.fr (.list (xs.map Datum.toD))] = some (.ret (.fr .none) e1) := q1
  obtain ⟨e2, q2⟩ := t_turned_back h h2
  unfold h_back_of
  refine ⟨[some (.fr (.list (xs.map Datum.toD)))], runF_rt (e := [some (.fr (.list (xs.map Datum.toD)))]) rfl ?_⟩
  unfold b_back_of
  simp [q1', q2]
/-- the first one's thing at each place that the second one names -/
def behL (xs ys : List Int) : List Int := ys.map fun y => xs.getD y.toNat 0
theorem at_beh {n : Nat} {xs : List Int} (h : IsOrd n xs) {y : Int} (g1 : 0 ≤ y) (g2 : y < (n : Int)) : atI (xs.map (Datum.toD : Int → PyData)) y = some (Datum.toD (xs.getD y.toNat 0)) := by
  have hl := h.length
  rw [atI_map, atI_of g1 (by omega), List.getD_eq_getElem?_getD, List.getElem?_eq_getElem (by omega)]
  rfl
theorem t_order_behind {n : Nat} {xs ys : List Int} (h : IsOrd n xs) (h' : IsOrd n ys) (h1 : 1 ≤ n) (h2 : n ≤ 12) : ∃ e, h_order_behind [.fr (.list (xs.map Datum.toD)), .fr (.list (ys.map Datum.toD))] = some (.ret (.ow ((behL xs ys).map Datum.toD)) e) := by
  obtain ⟨e1, q1⟩ := t_need_order h h1 h2
  have q1' : h_need_order [.fr (.list (xs.map Datum.toD))] = some (.ret (.fr .none) e1) := q1
  obtain ⟨e2, q2⟩ := t_need_order h' h1 h2
  have q2' : h_need_order [.fr (.list (ys.map Datum.toD))] = some (.ret (.fr .none) e2) := q2
  let E : VL.Env := [some (.fr (.list (xs.map Datum.toD))), some (.fr (.list (ys.map Datum.toD))), none]
  have s1 : (sExpr (fCallP h_need_order 1 (aP (fVar 0) aNil))) E = some (.nx E) := by simp [E, q1']
  have s2 : (sExpr (fCallP h_need_order 1 (aP (fVar 1) aNil))) E = some (.nx E) := by simp [E, q2']
  have s3 : (sIf (fTest (fBin oNe (fCB gLen (aCons (fVar 0) aNil)) (fCB gLen (aCons (fVar 1) aNil)))) (sRaise "NoFit") sNil) E = some (.nx E) := by
    have : oNe (.int (n : Int)) (.int (n : Int)) = some (.fr (.bool false)) := by
      have := o_ne (n : Int) (n : Int)
      rw [decide_eq_true rfl] at this
      exact this
    simp [E, h.length, h'.length, this]
  have s4 : fLc (iSeq (fVar 1)) (gN 2) tTrue (fBin oIx (fVar 0) (fVar 2)) [2] E = some (.ok (.b (.ow ((behL xs ys).map Datum.toD))) E) := by
    have k := lcL_pure (g := gN 2) (t := tTrue) (f := fBin oIx (fVar 0) (fVar 2)) (vs := [2]) (Datum.toD : Int → PyData) E (fun _ => true) (fun y => Datum.toD (xs.getD y.toNat 0)) ys [] (by show 0 + ys.length ≤ big; rw [h'.length]; unfold big; omega) (fun y hy => by
      obtain ⟨g1, g2⟩ := h'.mem hy
      have a := at_beh h g1 g2
      refine ⟨_, [some (.fr (.list (xs.map Datum.toD))), some (.fr (.list (ys.map Datum.toD))), some (.fr (.int y))], rfl, rfl, (fun z => by cases z), fun _ => ⟨.b (.fr (Datum.toD (xs.getD y.toNat 0))), [some (.fr (.list (xs.map Datum.toD))), some (.fr (.list (ys.map Datum.toD))), some (.fr (.int y))], _, ?_, rfl, rfl⟩⟩
      simp [a])
    rw [List.filter_eq_self.mpr (fun _ _ => rfl)] at k
    have e : (behL xs ys).map (Datum.toD : Int → PyData) = ys.map fun y => Datum.toD (xs.getD y.toNat 0) := by
      unfold behL
      rw [List.map_map]
      rfl
    rw [e]
    exact k
  refine ⟨E, ?_⟩
  unfold h_order_behind
  refine runF_rt (e := E) rfl ?_
  unfold b_order_behind
  rw [seq_nx s1, seq_nx s2, seq_nx s3, x_sRetO, s4]
  rfl
end VP

set_option maxRecDepth 100000
set_option maxHeartbeats 0
namespace K02
open PySem PySem.Spec PyProof.Rows L2 VL VP
def top (i : Nat) : Stmt := PySem.Challenge.pw_farorders_k02_backs_and_orders_behind.main.body.getD i (.Pass ⟨0, 0, 0, 0⟩)
abbrev s__law_deck : Stmt := top 13
abbrev s__law_is : Stmt := top 18
abbrev s__law_draw : Stmt := top 14
abbrev s__law_order : Stmt := top 15
abbrev s__law_near : Stmt := top 17
abbrev s__law_things : Stmt := top 16
abbrev s_is_whole : Stmt := top 6
abbrev s_is_order : Stmt := top 7
abbrev s_need_order : Stmt := top 8
abbrev s_turned_back : Stmt := top 9
abbrev s_back_of : Stmt := top 10
abbrev s_order_behind : Stmt := top 11
abbrev s_law : Stmt := top 19
/-- what the module holds -/
structure Fc (K : PySem.W.Frag) (mg : Str → Option Value) : Prop where
  x_NoFit : XC K mg "NoFit"
  x_NoOrder : XC K mg "NoOrder"
  f_bool : mg "bool" = none
  f_enumerate : mg "enumerate" = none
  f_int : mg "int" = none
  f_isinstance : mg "isinstance" = none
  f_len : mg "len" = none
  f_list : mg "list" = none
  f_max : mg "max" = none
  f_min : mg "min" = none
  f_range : mg "range" = none
  f_sorted : mg "sorted" = none
  i_MOST_THINGS : ∃ t, mg "MOST_THINGS" = some (.int 12 t)
/-! ### what each def computes -/
/-- 0: found, 1: due, 2: one -/
def b__law_is : FS :=
  (sRetO (fAndV (fIsi .list (fVar 0)) (fAndV (fBin oEq (fVar 0) (fVar 1)) (fBin oEq (fLc (iSeq (fVar 0)) (gN 2) (fTest (fIsi .bool (fVar 2))) (fVar 2) [2]) (fLst dNil)))))
def h__law_is : Fn := runF b__law_is 3
/-- 0: script, 1: deck, 2: k, 3: one, 4: other, 5: handed, 6: back, 7: behind, 8: place, 9: turn, 10: found, 11: told, 12: twice, 13: thing -/
def b_law : FS :=
  (sSeq (sOwn 1 (fCall h__law_deck 1 [] (aF (fVar 0) aNil)))
  (sSeq (sFor (iRange1 (fC (.int 10))) (gN 2) (sSeq (sAsg 3 (fCall h__law_order 2 [(0, 1)] (aM 1 (aF (fCall h__law_things 1 [(0, 1)] (aM 1 aNil)) aNil))))
  (sSeq (sAsg 4 (fCall h__law_near 2 [(0, 1)] (aM 1 (aF (fVar 3) aNil))))
  (sSeq (sAsg 5 (fLst (dCons (fCB gList (aCons (fVar 3) aNil)) (dCons (fCB gList (aCons (fVar 4) aNil)) dNil))))
  (sSeq (sAsg 6 (fLc (iRange1 (fCB gLen (aCons (fVar 3) aNil))) (gN 13) tTrue (fMthR mIndex (fVar 3) (dCons (fVar 13) dNil)) [13]))
  (sSeq (sOwn 7 (fLst dNil))
  (sSeq (sFor (iRange1 (fCB gLen (aCons (fVar 3) aNil))) (gN 8) (sExpr (fMth 7 mAppend (dCons (fBin oIx (fVar 3) (fBin oIx (fVar 4) (fVar 8))) dNil))) [8])
  (sSeq (sFor (iRange1 (fC (.int 2))) (gN 9) (sSeq (sOwn 10 (fCall h_back_of 1 [] (aF (fBin oIx (fVar 5) (fC (.int 0))) aNil)))
  (sSeq (sOwn 11 (fCall h_order_behind 2 [] (aF (fBin oIx (fVar 5) (fC (.int 0))) (aF (fBin oIx (fVar 5) (fC (.int 1))) aNil))))
  (sSeq (sIf (tOr (tNot (fTest (fCallP h__law_is 2 (aP (fVar 10) (aP (fVar 6) aNil))))) (tOr (tNot (fTest (fCallP h__law_is 2 (aP (fVar 11) (aP (fVar 7) aNil))))) (fTest (fBin oNe (fVar 5) (fLst (dCons (fVar 3) (dCons (fVar 4) dNil))))))) (sRetO (fC (.bool false))) sNil)
  (sSeq (sExpr (fMth 10 mAppend (dCons (fC (.int 0)) dNil)))
  (sExpr (fMth 11 mAppend (dCons (fC (.int 0)) dNil))))))) [9, 10, 11])
  (sSeq (sAsg 12 (fLc (iSeq (fVar 3)) (gN 13) tTrue (fBin oIx (fVar 3) (fVar 13)) [13]))
  (sIf (tOr (tNot (fTest (fCallP h__law_is 2 (aP (fCall h_order_behind 2 [] (aF (fBin oIx (fVar 5) (fC (.int 0))) (aF (fBin oIx (fVar 5) (fC (.int 0))) aNil))) (aP (fVar 12) aNil))))) (fTest (fBin oNe (fVar 5) (fLst (dCons (fVar 3) (dCons (fVar 4) dNil)))))) (sRetO (fC (.bool false))) sNil))))))))) [2, 3, 4, 5, 6, 7, 8, 9, 10, 11, 12])
  (sRetO (fAndV (fBin oEq (fCall h_back_of 1 [] (aF (fLst (dCons (fC (.int 0)) dNil)) aNil)) (fLst (dCons (fC (.int 0)) dNil))) (fBin oEq (fCall h_order_behind 2 [] (aF (fLst (dCons (fC (.int 1)) (dCons (fC (.int 2)) (dCons (fC (.int 0)) dNil)))) (aF (fLst (dCons (fC (.int 0)) (dCons (fC (.int 2)) (dCons (fC (.int 1)) dNil)))) aNil))) (fLst (dCons (fC (.int 1)) (dCons (fC (.int 0)) (dCons (fC (.int 2)) dNil)))))))))
def h_law : Fn := runF b_law 14
end K02

set_option maxRecDepth 100000
set_option maxHeartbeats 0
namespace K02
open PySem PySem.Spec PyProof.Rows L2 VL VP
section
variable {P : Program} {w : World} {K : PySem.W.Frag} {mg : Str → Option Value} {base : Heap}
theorem ok__law_deck {a : Addr} {fd : FuncData} (F : FunD K "_law_deck" "_law_deck" (defArgs s__law_deck) (defBody s__law_deck) (defScope s__law_deck) [] [] a fd) (gm : mg "_law_deck" = some (.ref a)) (z : Fc K mg)  : CalK P w K mg base rhoD "_law_deck" 1 [] h__law_deck 2 :=
  cal_mk (N := ["script", "pools", "k", "cell"]) (ps := ["script"]) (k := 1) (g := b__law_deck) [] F gm ⟨rfl, rfl, rfl, by decide +kernel, rfl, by decide +kernel, by decide +kernel⟩ (by decide) (fun _ _ _ _ _ _ us hl => match us, hl with | [_], _ => rfl) (fun cdv A outer s H E hr V0 => by
    exact
  (vss_cons (vs_newP V0.nd rfl 1)
  (vss_cons (vs_for V0 [2, 3] (vi_range1 z.f_range (ve_cb (v_max V0.calm) z.f_max b_max (va_cons ve_int (va_cons (ve_cb (v_min V0.calm) z.f_min b_min (va_cons ve_int (va_cons (ve_scLen (ve_var 0) z.f_len b_len) va_nil))) va_nil)))) (vg_name V0.nd 2) (vss_cons (vs_asg V0.nd 3 ve_int)
  (vss_cons (vs_if (vt_cmp v_lt (ve_var 2) (ve_scLen (ve_var 0) z.f_len b_len)) (vss_one (vs_asg V0.nd 3 (ve_scIx (ve_var 0) (ve_var 2)))) vss_nil)
  (vss_one (vs_appP rfl 1 (vd_cons (ve_var 3) (vd_cons (ve_ct v_int z.f_int b_int (va_cons (ve_cmp v_ge (ve_var 3) (ve_op v_pow ve_int ve_int)) va_nil)) (vd_cons (ve_op v_mul ve_int (ve_var 2)) vd_nil))))))))
  (vss_one (vs_retO (ve_deck rfl rfl 1)))))) (by decide)

theorem ok__law_is {a : Addr} {fd : FuncData} (F : FunD K "_law_is" "_law_is" (defArgs s__law_is) (defBody s__law_is) (defScope s__law_is) [] [] a fd) (gm : mg "_law_is" = some (.ref a)) (z : Fc K mg)  : CalK P w K mg base rhoD "_law_is" 2 [] h__law_is 2 :=
  cal_mk (N := ["found", "due", "one"]) (ps := ["found", "due"]) (k := 1) (g := b__law_is) [] F gm ⟨rfl, rfl, rfl, by decide +kernel, rfl, by decide +kernel, by decide +kernel⟩ (by decide) (fun _ _ _ _ _ _ us hl => match us, hl with | [_, _], _ => rfl) (fun cdv A outer s H E hr V0 => by
    exact
  (vss_one (vs_retO (ve_and (ve_isi .list (ve_var 0) z.f_isinstance z.f_list b_list) (ve_and (ve_cmp (v_eq (by have := V0.room.un; omega)) (ve_var 0) (ve_var 1)) (ve_one (ve_cmp (v_eq (by have := V0.room.un; omega)) (ve_lc V0 [("one", 2)] (t := (gName 2)) (vi_seq (ve_var 0)) (by kernel_rfl) (fun _ _ _ _ _ => pg_name V0.nd rfl (Or.inl rfl)) (sg_name (by decide)) (wg_name (by decide)) (fun s H C cl fp V0 => (vc_if (vt_of (fun _ => rfl) (ve_isi .bool (ve_var 2) z.f_isinstance z.f_bool b_bool)))) (fun s H C cl fp V0 => (ve_var 2))) (ve_lst vd_nil)))))))) (by decide)

theorem ok__law_draw {a : Addr} {fd : FuncData} (F : FunD K "_law_draw" "_law_draw" (defArgs s__law_draw) (defBody s__law_draw) (defScope s__law_draw) [] [] a fd) (gm : mg "_law_draw" = some (.ref a)) (z : Fc K mg) : CalK P w K mg base rhoD "_law_draw" 2 [0] h__law_draw 2 :=
  cal_draw F gm ⟨rfl, rfl, rfl, by decide +kernel, rfl, by decide +kernel, by decide +kernel⟩ rfl (fun _ _ _ _ _ _ us hl => match us, hl with | [_, _], _ => rfl) (fun cdv A outer s H E hr V0 => by
    exact
  (pss_cons (ps_set (i := 2) V0.nd rfl (.inl rfl) (pe_ix ix_list (pe_ix ix_list (pv 0) pe_int (fun _ _ => rfl)) (pe_op op_mod (pe_ix ix_list (pv 0) pe_int (fun _ _ => rfl)) (pe_callB call_len_seq (by rfl) z.f_len b_len (pa_cons (pe_ix ix_list (pv 0) pe_int (fun _ _ => rfl)) pa_nil))) (fun _ _ => rfl)))
  (pss_cons (ps_asg (pe_op op_add (pe_ix ix_list (pv 0) pe_int (fun _ _ => rfl)) pe_int) (pg_sub (pv 0) pe_int set_list))
  (pss_cons (ps_if (pw_and (pt_cmpR op_eq (pe_ix ix_list (pv 2) pe_int (fun _ _ => rfl)) pe_int (nomark _)) (pw_and1 (pt_cmpR op_gt (pe_ix ix_list (pv 2) pe_int (fun _ _ => rfl)) pe_int (nomark _)))).pt
    (pss_cons (ps_set (i := 3) V0.nd rfl (.inl rfl) (pe_op op_mod (pe_ix ix_list (pv 2) pe_int (fun _ _ => rfl)) (pv 1))) (pss_cons (ps_asg (pe_op op_fdivW (pe_ix ix_list (pv 2) pe_int (fun _ _ => rfl)) (pv 1)) (pg_sub (pv 2) pe_int set_list)) (pss_one (ps_ret (pv 3))))) pss_nil)
  (pss_cons (ps_asg (pe_op op_add (pe_ix ix_list (pv 2) pe_int (fun _ _ => rfl)) pe_int) (pg_sub (pv 2) pe_int set_list))
  (pss_cons (ps_set (i := 4) V0.nd rfl (.inl rfl) (pe_op op_mod (pe_op op_add (pe_op op_mod (pe_ix ix_list (pv 2) pe_int (fun _ _ => rfl)) pe_int) (pe_op op_mul pe_int (pe_ix ix_list (pv 2) pe_int (fun _ _ => rfl)))) pe_int))
  (pss_cons (ps_set (i := 4) V0.nd rfl (.inl rfl) (pe_op op_mod (pe_op op_mul (pv 4) (pv 4)) pe_int))
  (pss_cons (ps_set (i := 4) V0.nd rfl (.inl rfl) (pe_op op_mod (pe_op op_mul (pv 4) (pe_op op_add (pv 4) pe_int)) pe_int))
  (pss_one (ps_ret (pe_op op_mod (pe_op op_fdivW (pv 4) pe_int) (pv 1))))))))))))
theorem ok__law_order {a : Addr} {fd : FuncData} (F : FunD K "_law_order" "_law_order" (defArgs s__law_order) (defBody s__law_order) (defScope s__law_order) [] [] a fd) (gm : mg "_law_order" = some (.ref a)) (z : Fc K mg) (c__law_draw : CalK P w K mg base rhoD "_law_draw" 2 [0] h__law_draw 2) : CalK P w K mg base rhoD "_law_order" 2 [0] h__law_order 3 :=
  cal_mk (N := ["deck", "n", "left", "way", "k", "p"]) (ps := ["deck", "n"]) (k := 2) (g := b__law_order) [0] F gm ⟨rfl, rfl, rfl, by decide +kernel, rfl, by decide +kernel, by decide +kernel⟩ (by decide) (fun _ _ _ _ _ _ us hl => match us, hl with | [_, _], _ => rfl) (fun cdv A outer s H E hr V0 => by
    exact
  (vss_cons (vs_own V0.nd 2 (ve_listRg1 V0.calm z.f_list z.f_range (ve_var 1)))
  (vss_cons (vs_asg V0.nd 3 (ve_call (mi := [(0, 0)]) V0 c__law_draw.c (hr.mono (by decide)) (va_M 0 (va_F ve_int va_nil))))
  (vss_cons (vs_if (vt_cmp (v_eq (by have := V0.room.un; omega)) (ve_var 3) ve_int) (vss_one (vs_retO (ve_lc V0 [("k", 4)] (t := (gName 4)) (vi_range1 z.f_range (ve_var 1)) (by kernel_rfl) (fun _ _ _ _ _ => pg_name V0.nd rfl (Or.inl rfl)) (sg_name (by decide)) (wg_name (by decide)) (fun s H C cl fp V0 => vc_no) (fun s H C cl fp V0 => (ve_mth v_pop 2 PySem.F.slot_list_pop PySem.F.type_list_pop (vd_cons (ve_call (mi := [(0, 0)]) V0 c__law_draw.c (hr.mono (by decide)) (va_M 0 (va_F (ve_cb (v_len) z.f_len b_len (va_cons (ve_var 2) va_nil)) va_nil))) vd_nil)))))) vss_nil)
  (vss_cons (vs_if (vt_cmp (v_eq (by have := V0.room.un; omega)) (ve_var 3) ve_int) (vss_one (vs_own V0.nd 2 (ve_rev (ve_var 2)))) vss_nil)
  (vss_cons (vs_for V0 [4, 5] (vi_range1 z.f_range (ve_op v_mul (ve_call (mi := [(0, 0)]) V0 c__law_draw.c (hr.mono (by decide)) (va_M 0 (va_F ve_int va_nil))) (ve_ct v_int z.f_int b_int (va_cons (ve_cmp v_gt (ve_var 1) ve_int) va_nil)))) (vg_name V0.nd 4) (vss_cons (vs_asg V0.nd 5 (ve_call (mi := [(0, 0)]) V0 c__law_draw.c (hr.mono (by decide)) (va_M 0 (va_F (ve_op v_sub (ve_var 1) ve_int) va_nil))))
  (vss_one (vs_put2 V0 2 2 (ve_var 5) (ve_op v_add (ve_var 5) ve_int) (vd_cons (ve_ix (ve_var 2) (ve_op v_add (ve_var 5) ve_int)) (vd_cons (ve_ix (ve_var 2) (ve_var 5)) vd_nil))))))
  (vss_one (vs_retO (ve_var 2))))))))) (by decide)

theorem ok__law_near {a : Addr} {fd : FuncData} (F : FunD K "_law_near" "_law_near" (defArgs s__law_near) (defBody s__law_near) (defScope s__law_near) [] [] a fd) (gm : mg "_law_near" = some (.ref a)) (z : Fc K mg) (c__law_draw : CalK P w K mg base rhoD "_law_draw" 2 [0] h__law_draw 2) (c__law_order : CalK P w K mg base rhoD "_law_order" 2 [0] h__law_order 3) : CalK P w K mg base rhoD "_law_near" 2 [0] h__law_near 4 :=
  cal_mk (N := ["deck", "order", "found", "n", "way", "thing", "k", "p", "q"]) (ps := ["deck", "order"]) (k := 3) (g := b__law_near) [0] F gm ⟨rfl, rfl, rfl, by decide +kernel, rfl, by decide +kernel, by decide +kernel⟩ (by decide) (fun _ _ _ _ _ _ us hl => match us, hl with | [_, _], _ => rfl) (fun cdv A outer s H E hr V0 => by
    exact
  (vss_cons (vs_own V0.nd 2 (ve_ct v_list z.f_list b_list (va_cons (ve_var 1) va_nil)))
  (vss_cons (vs_asg V0.nd 3 (ve_cb (v_len) z.f_len b_len (va_cons (ve_var 1) va_nil)))
  (vss_cons (vs_asg V0.nd 4 (ve_call (mi := [(0, 0)]) V0 c__law_draw.c (hr.mono (by decide)) (va_M 0 (va_F ve_int va_nil))))
  (vss_cons (vs_if (vt_cmp (v_eq (by have := V0.room.un; omega)) (ve_var 4) ve_int) (vss_one (vs_retO (ve_call (mi := [(0, 0)]) V0 c__law_order.c (hr.mono (by decide)) (va_M 0 (va_F (ve_var 3) va_nil))))) vss_nil)
  (vss_cons (vs_if (vt_cmp (v_eq (by have := V0.room.un; omega)) (ve_var 4) ve_int) (vss_one (vs_retO (ve_rev (ve_var 2)))) vss_nil)
  (vss_cons (vs_if (vt_cmp (v_eq (by have := V0.room.un; omega)) (ve_var 4) ve_int) (vss_cons (vs_asg V0.nd 5 (ve_mth v_pop 2 PySem.F.slot_list_pop PySem.F.type_list_pop (vd_cons (ve_call (mi := [(0, 0)]) V0 c__law_draw.c (hr.mono (by decide)) (va_M 0 (va_F (ve_var 3) va_nil))) vd_nil)))
  (vss_cons (vs_expr (ve_mth v_insert 2 PySem.F.slot_list_insert PySem.F.type_list_insert (vd_cons (ve_call (mi := [(0, 0)]) V0 c__law_draw.c (hr.mono (by decide)) (va_M 0 (va_F (ve_var 3) va_nil))) (vd_cons (ve_var 5) vd_nil))))
  (vss_one (vs_retO (ve_var 2))))) vss_nil)
  (vss_cons (vs_for V0 [6, 7, 8] (vi_range1 z.f_range (ve_call (mi := [(0, 0)]) V0 c__law_draw.c (hr.mono (by decide)) (va_M 0 (va_F ve_int va_nil)))) (vg_name V0.nd 6) (vss_cons (vs_asg V0.nd 7 (ve_call (mi := [(0, 0)]) V0 c__law_draw.c (hr.mono (by decide)) (va_M 0 (va_F (ve_var 3) va_nil))))
  (vss_cons (vs_asg V0.nd 8 (ve_ix (ve_lst (vd_cons (ve_call (mi := [(0, 0)]) V0 c__law_draw.c (hr.mono (by decide)) (va_M 0 (va_F (ve_var 3) va_nil))) (vd_cons (ve_cb (v_min V0.calm) z.f_min b_min (va_cons (ve_op v_sub (ve_var 3) ve_int) (va_cons (ve_op v_add (ve_var 7) ve_int) va_nil))) vd_nil))) (ve_op v_sub (ve_var 4) ve_int)))
  (vss_one (vs_put2 V0 2 2 (ve_var 7) (ve_var 8) (vd_cons (ve_ix (ve_var 2) (ve_var 8)) (vd_cons (ve_ix (ve_var 2) (ve_var 7)) vd_nil)))))))
  (vss_one (vs_retO (ve_var 2))))))))))) (by decide)

theorem ok__law_things {a : Addr} {fd : FuncData} (F : FunD K "_law_things" "_law_things" (defArgs s__law_things) (defBody s__law_things) (defScope s__law_things) [] [] a fd) (gm : mg "_law_things" = some (.ref a)) (z : Fc K mg) (c__law_draw : CalK P w K mg base rhoD "_law_draw" 2 [0] h__law_draw 2) : CalK P w K mg base rhoD "_law_things" 1 [0] h__law_things 3 :=
  cal_mk (N := ["deck"]) (ps := ["deck"]) (k := 2) (g := b__law_things) [0] F gm ⟨rfl, rfl, rfl, by decide +kernel, rfl, by decide +kernel, by decide +kernel⟩ (by decide) (fun _ _ _ _ _ _ us hl => match us, hl with | [_], _ => rfl) (fun cdv A outer s H E hr V0 => by
    exact
  (vss_one (vs_retO (ve_ix (ve_lst (vd_cons (ve_op v_add ve_int (ve_call (mi := [(0, 0)]) V0 c__law_draw.c (hr.mono (by decide)) (va_M 0 (va_F ve_int va_nil)))) (vd_cons (ve_op v_add ve_int (ve_call (mi := [(0, 0)]) V0 c__law_draw.c (hr.mono (by decide)) (va_M 0 (va_F ve_int va_nil)))) (vd_cons (ve_op v_add ve_int (ve_call (mi := [(0, 0)]) V0 c__law_draw.c (hr.mono (by decide)) (va_M 0 (va_F ve_int va_nil)))) (vd_cons ve_int vd_nil))))) (ve_call (mi := [(0, 0)]) V0 c__law_draw.c (hr.mono (by decide)) (va_M 0 (va_F ve_int va_nil))))))) (by decide)

theorem ok_is_whole {a : Addr} {fd : FuncData} (F : FunD K "is_whole" "is_whole" (defArgs s_is_whole) (defBody s_is_whole) (defScope s_is_whole) [] [] a fd) (gm : mg "is_whole" = some (.ref a)) (z : Fc K mg)  : CalK P w K mg base rhoD "is_whole" 1 [] h_is_whole 2 :=
  cal_mk (N := ["thing"]) (ps := ["thing"]) (k := 1) (g := b_is_whole) [] F gm ⟨rfl, rfl, rfl, by decide +kernel, rfl, by decide +kernel, by decide +kernel⟩ (by decide) (fun _ _ _ _ _ _ us hl => match us, hl with | [_], _ => rfl) (fun cdv A outer s H E hr V0 => by
    exact
  (vss_one (vs_retO (ve_and (ve_isi .int (ve_var 0) z.f_isinstance z.f_int b_int) (ve_one (ve_not (ve_isi .bool (ve_var 0) z.f_isinstance z.f_bool b_bool))))))) (by decide)

theorem ok_is_order {a : Addr} {fd : FuncData} (F : FunD K "is_order" "is_order" (defArgs s_is_order) (defBody s_is_order) (defScope s_is_order) [] [] a fd) (gm : mg "is_order" = some (.ref a)) (z : Fc K mg) (c_is_whole : CalK P w K mg base rhoD "is_whole" 1 [] h_is_whole 2) : CalK P w K mg base rhoD "is_order" 1 [] h_is_order 3 :=
  cal_mk (N := ["thing", "one"]) (ps := ["thing"]) (k := 2) (g := b_is_order) [] F gm ⟨rfl, rfl, rfl, by decide +kernel, rfl, by decide +kernel, by decide +kernel⟩ (by decide) (fun _ _ _ _ _ _ us hl => match us, hl with | [_], _ => rfl) (fun cdv A outer s H E hr V0 => by
    exact
  (vss_cons (vs_if (vw_or (vt_not (vt_of (fun _ => rfl) (ve_isi .list (ve_var 0) z.f_isinstance z.f_list b_list))) (vw_or1 (vt_not (vt_chain v_le v_le ve_int (ve_cb (v_len) z.f_len b_len (va_cons (ve_var 0) va_nil)) (ve_gint z.i_MOST_THINGS))))).vt (vss_one (vs_retO ve_bl)) vss_nil)
  (vss_cons (vs_if (vt_cmp (v_ne (by have := V0.room.un; omega)) (ve_lc V0 [("one", 1)] (t := (gName 1)) (vi_seq (ve_var 0)) (by kernel_rfl) (fun _ _ _ _ _ => pg_name V0.nd rfl (Or.inl rfl)) (sg_name (by decide)) (wg_name (by decide)) (fun s H C cl fp V0 => (vc_if (vt_not (vt_of (fun _ => rfl) (ve_callP V0 c_is_whole.c (hr.mono (by decide)) (va_P (ve_var 1) va_nil)))))) (fun s H C cl fp V0 => (ve_var 1))) (ve_lst vd_nil)) (vss_one (vs_retO ve_bl)) vss_nil)
  (vss_one (vs_retO (ve_cmp (v_eq (by have := V0.room.un; omega)) (ve_cb (v_sorted) z.f_sorted b_sorted (va_cons (ve_var 0) va_nil)) (ve_listRg1 V0.calm z.f_list z.f_range (ve_cb (v_len) z.f_len b_len (va_cons (ve_var 0) va_nil))))))))) (by decide)

theorem ok_need_order {a : Addr} {fd : FuncData} (F : FunD K "need_order" "need_order" (defArgs s_need_order) (defBody s_need_order) (defScope s_need_order) [] [] a fd) (gm : mg "need_order" = some (.ref a)) (z : Fc K mg) (c_is_order : CalK P w K mg base rhoD "is_order" 1 [] h_is_order 3) : CalK P w K mg base rhoD "need_order" 1 [] h_need_order 4 :=
  cal_mk (N := ["thing"]) (ps := ["thing"]) (k := 3) (g := b_need_order) [] F gm ⟨rfl, rfl, rfl, by decide +kernel, rfl, by decide +kernel, by decide +kernel⟩ (by decide) (fun _ _ _ _ _ _ us hl => match us, hl with | [_], _ => rfl) (fun cdv A outer s H E hr V0 => by
    exact
  (vss_one (vs_if (vt_not (vt_of (fun _ => rfl) (ve_callP V0 c_is_order.c (hr.mono (by decide)) (va_P (ve_var 0) va_nil)))) (vss_one (vs_raise V0 z.x_NoOrder)) vss_nil))) (by decide)

theorem ok_turned_back {a : Addr} {fd : FuncData} (F : FunD K "turned_back" "turned_back" (defArgs s_turned_back) (defBody s_turned_back) (defScope s_turned_back) [] [] a fd) (gm : mg "turned_back" = some (.ref a)) (z : Fc K mg)  : CalK P w K mg base rhoD "turned_back" 1 [] h_turned_back 2 :=
  cal_mk (N := ["order", "found", "place", "thing"]) (ps := ["order"]) (k := 1) (g := b_turned_back) [] F gm ⟨rfl, rfl, rfl, by decide +kernel, rfl, by decide +kernel, by decide +kernel⟩ (by decide) (fun _ _ _ _ _ _ us hl => match us, hl with | [_], _ => rfl) (fun cdv A outer s H E hr V0 => by
    exact
  (vss_cons (vs_own V0.nd 1 (ve_op v_mul (ve_lst (vd_cons ve_int vd_nil)) (ve_cb (v_len) z.f_len b_len (va_cons (ve_var 0) va_nil))))
  (vss_cons (vs_for V0 [2, 3] (vi_enum z.f_enumerate (ve_var 0)) (vg_t2 V0.nd V0.calm 2 3) (vss_one (vs_put 1 (ve_var 3) (ve_var 2))))
  (vss_one (vs_retO (ve_var 1)))))) (by decide)

theorem ok_back_of {a : Addr} {fd : FuncData} (F : FunD K "back_of" "back_of" (defArgs s_back_of) (defBody s_back_of) (defScope s_back_of) [] [] a fd) (gm : mg "back_of" = some (.ref a)) (z : Fc K mg) (c_need_order : CalK P w K mg base rhoD "need_order" 1 [] h_need_order 4) (c_turned_back : CalK P w K mg base rhoD "turned_back" 1 [] h_turned_back 2) : CalK P w K mg base rhoD "back_of" 1 [] h_back_of 5 :=
  cal_mk (N := ["order"]) (ps := ["order"]) (k := 4) (g := b_back_of) [] F gm ⟨rfl, rfl, rfl, by decide +kernel, rfl, by decide +kernel, by decide +kernel⟩ (by decide) (fun _ _ _ _ _ _ us hl => match us, hl with | [_], _ => rfl) (fun cdv A outer s H E hr V0 => by
    exact
  (vss_cons (vs_expr (ve_callP V0 c_need_order.c (hr.mono (by decide)) (va_P (ve_var 0) va_nil)))
  (vss_one (vs_retO (ve_call (mi := []) V0 c_turned_back.c (hr.mono (by decide)) (va_F (ve_var 0) va_nil)))))) (by decide)

theorem ok_order_behind {a : Addr} {fd : FuncData} (F : FunD K "order_behind" "order_behind" (defArgs s_order_behind) (defBody s_order_behind) (defScope s_order_behind) [] [] a fd) (gm : mg "order_behind" = some (.ref a)) (z : Fc K mg) (c_need_order : CalK P w K mg base rhoD "need_order" 1 [] h_need_order 4) : CalK P w K mg base rhoD "order_behind" 2 [] h_order_behind 5 :=
  cal_mk (N := ["first", "second", "thing"]) (ps := ["first", "second"]) (k := 4) (g := b_order_behind) [] F gm ⟨rfl, rfl, rfl, by decide +kernel, rfl, by decide +kernel, by decide +kernel⟩ (by decide) (fun _ _ _ _ _ _ us hl => match us, hl with | [_, _], _ => rfl) (fun cdv A outer s H E hr V0 => by
    exact
  (vss_cons (vs_expr (ve_callP V0 c_need_order.c (hr.mono (by decide)) (va_P (ve_var 0) va_nil)))
  (vss_cons (vs_expr (ve_callP V0 c_need_order.c (hr.mono (by decide)) (va_P (ve_var 1) va_nil)))
  (vss_cons (vs_if (vt_cmp (v_ne (by have := V0.room.un; omega)) (ve_cb (v_len) z.f_len b_len (va_cons (ve_var 0) va_nil)) (ve_cb (v_len) z.f_len b_len (va_cons (ve_var 1) va_nil))) (vss_one (vs_raise V0 z.x_NoFit)) vss_nil)
  (vss_one (vs_retO (ve_lc V0 [("thing", 2)] (t := (gName 2)) (vi_seq (ve_var 1)) (by kernel_rfl) (fun _ _ _ _ _ => pg_name V0.nd rfl (Or.inl rfl)) (sg_name (by decide)) (wg_name (by decide)) (fun s H C cl fp V0 => vc_no) (fun s H C cl fp V0 => (ve_ix (ve_var 0) (ve_var 2)))))))))) (by decide)

theorem ok_law {a : Addr} {fd : FuncData} (F : FunD K "law" "law" (defArgs s_law) (defBody s_law) (defScope s_law) [] [] a fd) (z : Fc K mg) (c__law_deck : CalK P w K mg base rhoD "_law_deck" 1 [] h__law_deck 2) (c__law_is : CalK P w K mg base rhoD "_law_is" 2 [] h__law_is 2) (c__law_near : CalK P w K mg base rhoD "_law_near" 2 [0] h__law_near 4) (c__law_order : CalK P w K mg base rhoD "_law_order" 2 [0] h__law_order 3) (c__law_things : CalK P w K mg base rhoD "_law_things" 1 [0] h__law_things 3) (c_back_of : CalK P w K mg base rhoD "back_of" 1 [] h_back_of 5) (c_order_behind : CalK P w K mg base rhoD "order_behind" 2 [] h_order_behind 5) : FnOk P w K mg base (L2.CX P w) 6 a fd ["script"] (spV ⟨K, mg, rhoD⟩ 1 [] h_law) :=
  fn_mkV (N := ["script", "deck", "k", "one", "other", "handed", "back", "behind", "place", "turn", "found", "told", "twice", "thing"]) (ps := ["script"]) (k := 5) (g := b_law) [] F ⟨rfl, rfl, rfl, by decide +kernel, rfl, by decide +kernel, by decide +kernel⟩ (by decide) (fun cdv A outer s H E hr V0 => by
    exact
  (vss_cons (vs_own V0.nd 1 (ve_call (mi := []) V0 c__law_deck.c (hr.mono (by decide)) (va_F (ve_var 0) va_nil)))
  (vss_cons (vs_for V0 [2, 3, 4, 5, 6, 7, 8, 9, 10, 11, 12] (vi_range1 z.f_range ve_int) (vg_name V0.nd 2) (vss_cons (vs_asg V0.nd 3 (ve_call (mi := [(0, 1)]) V0 c__law_order.c (hr.mono (by decide)) (va_M 1 (va_F (ve_call (mi := [(0, 1)]) V0 c__law_things.c (hr.mono (by decide)) (va_M 1 va_nil)) va_nil))))
  (vss_cons (vs_asg V0.nd 4 (ve_call (mi := [(0, 1)]) V0 c__law_near.c (hr.mono (by decide)) (va_M 1 (va_F (ve_var 3) va_nil))))
  (vss_cons (vs_asg V0.nd 5 (ve_lst (vd_cons (ve_ct v_list z.f_list b_list (va_cons (ve_var 3) va_nil)) (vd_cons (ve_ct v_list z.f_list b_list (va_cons (ve_var 4) va_nil)) vd_nil))))
  (vss_cons (vs_asgLc V0 6 [("thing", 13)] (t := (gName 13)) (vi_range1 z.f_range (ve_cb (v_len) z.f_len b_len (va_cons (ve_var 3) va_nil))) (by kernel_rfl) (fun _ _ _ _ _ => pg_name V0.nd rfl (Or.inl rfl)) (sg_name (by decide)) (wg_name (by decide)) (fun s H C cl fp V0 => vc_no) (fun s H C cl fp V0 => (ve_mthR (v_index V0.u66) PySem.F.slot_list_index PySem.F.type_list_index (ve_var 3) (vd_cons (ve_var 13) vd_nil))) (sw_true rfl rfl rfl (by decide +kernel))).1
  (vss_cons (vs_own V0.nd 7 (ve_lst vd_nil))
  (vss_cons (vs_for V0 [8] (vi_range1 z.f_range (ve_cb (v_len) z.f_len b_len (va_cons (ve_var 3) va_nil))) (vg_name V0.nd 8) (vss_one (vs_expr (ve_mth v_append 7 PySem.F.slot_list_append PySem.F.type_list_append (vd_cons (ve_ix (ve_var 3) (ve_ix (ve_var 4) (ve_var 8))) vd_nil)))))
  (vss_cons (vs_for V0 [9, 10, 11] (vi_range1 z.f_range ve_int) (vg_name V0.nd 9) (vss_cons (vs_own V0.nd 10 (ve_call (mi := []) V0 c_back_of.c (hr.mono (by decide)) (va_F (ve_ix (ve_var 5) ve_int) va_nil)))
  (vss_cons (vs_own V0.nd 11 (ve_call (mi := []) V0 c_order_behind.c (hr.mono (by decide)) (va_F (ve_ix (ve_var 5) ve_int) (va_F (ve_ix (ve_var 5) ve_int) va_nil))))
  (vss_cons (vs_if (vw_or (vt_not (vt_of (fun _ => rfl) (ve_callP V0 c__law_is.c (hr.mono (by decide)) (va_P (ve_var 10) (va_P (ve_var 6) va_nil))))) (vw_or (vt_not (vt_of (fun _ => rfl) (ve_callP V0 c__law_is.c (hr.mono (by decide)) (va_P (ve_var 11) (va_P (ve_var 7) va_nil))))) (vw_or1 (vt_cmp (v_ne (by have := V0.room.un; omega)) (ve_var 5) (ve_lst (vd_cons (ve_var 3) (vd_cons (ve_var 4) vd_nil))))))).vt (vss_one (vs_retO ve_bl)) vss_nil)
  (vss_cons (vs_expr (ve_mth v_append 10 PySem.F.slot_list_append PySem.F.type_list_append (vd_cons ve_int vd_nil)))
  (vss_one (vs_expr (ve_mth v_append 11 PySem.F.slot_list_append PySem.F.type_list_append (vd_cons ve_int vd_nil)))))))))
  (vss_cons (vs_asgLc V0 12 [("thing", 13)] (t := (gName 13)) (vi_seq (ve_var 3)) (by kernel_rfl) (fun _ _ _ _ _ => pg_name V0.nd rfl (Or.inl rfl)) (sg_name (by decide)) (wg_name (by decide)) (fun s H C cl fp V0 => vc_no) (fun s H C cl fp V0 => (ve_ix (ve_var 3) (ve_var 13))) (sw_true rfl rfl rfl (by decide +kernel))).1
  (vss_one (vs_if (vw_or (vt_not (vt_of (fun _ => rfl) (ve_callP V0 c__law_is.c (hr.mono (by decide)) (va_P (ve_call (mi := []) V0 c_order_behind.c (hr.mono (by decide)) (va_F (ve_ix (ve_var 5) ve_int) (va_F (ve_ix (ve_var 5) ve_int) va_nil))) (va_P (ve_var 12) va_nil))))) (vw_or1 (vt_cmp (v_ne (by have := V0.room.un; omega)) (ve_var 5) (ve_lst (vd_cons (ve_var 3) (vd_cons (ve_var 4) vd_nil)))))).vt (vss_one (vs_retO ve_bl)) vss_nil)))))))))))
  (vss_one (vs_retO (ve_and (ve_cmp (v_eq (by have := V0.room.un; omega)) (ve_call (mi := []) V0 c_back_of.c (hr.mono (by decide)) (va_F (ve_lst (vd_cons ve_int vd_nil)) va_nil)) (ve_lst (vd_cons ve_int vd_nil))) (ve_one (ve_cmp (v_eq (by have := V0.room.un; omega)) (ve_call (mi := []) V0 c_order_behind.c (hr.mono (by decide)) (va_F (ve_lst (vd_cons ve_int (vd_cons ve_int (vd_cons ve_int vd_nil)))) (va_F (ve_lst (vd_cons ve_int (vd_cons ve_int (vd_cons ve_int vd_nil)))) va_nil))) (ve_lst (vd_cons ve_int (vd_cons ve_int (vd_cons ve_int vd_nil)))))))))))) (by decide)

end
def d__law_deck : He.DefD := ⟨("_law_deck", none), "_law_deck", "_law_deck", defArgs s__law_deck, defBody s__law_deck, defScope s__law_deck, [], []⟩
def d__law_is : He.DefD := ⟨("_law_is", none), "_law_is", "_law_is", defArgs s__law_is, defBody s__law_is, defScope s__law_is, [], []⟩
def d__law_draw : He.DefD := ⟨("_law_draw", none), "_law_draw", "_law_draw", defArgs s__law_draw, defBody s__law_draw, defScope s__law_draw, [], []⟩
def d__law_order : He.DefD := ⟨("_law_order", none), "_law_order", "_law_order", defArgs s__law_order, defBody s__law_order, defScope s__law_order, [], []⟩
def d__law_near : He.DefD := ⟨("_law_near", none), "_law_near", "_law_near", defArgs s__law_near, defBody s__law_near, defScope s__law_near, [], []⟩
def d__law_things : He.DefD := ⟨("_law_things", none), "_law_things", "_law_things", defArgs s__law_things, defBody s__law_things, defScope s__law_things, [], []⟩
def d_is_whole : He.DefD := ⟨("is_whole", none), "is_whole", "is_whole", defArgs s_is_whole, defBody s_is_whole, defScope s_is_whole, [], []⟩
def d_is_order : He.DefD := ⟨("is_order", none), "is_order", "is_order", defArgs s_is_order, defBody s_is_order, defScope s_is_order, [], []⟩
def d_need_order : He.DefD := ⟨("need_order", none), "need_order", "need_order", defArgs s_need_order, defBody s_need_order, defScope s_need_order, [], []⟩
def d_turned_back : He.DefD := ⟨("turned_back", none), "turned_back", "turned_back", defArgs s_turned_back, defBody s_turned_back, defScope s_turned_back, [], []⟩
def d_back_of : He.DefD := ⟨("back_of", none), "back_of", "back_of", defArgs s_back_of, defBody s_back_of, defScope s_back_of, [], []⟩
def d_order_behind : He.DefD := ⟨("order_behind", none), "order_behind", "order_behind", defArgs s_order_behind, defBody s_order_behind, defScope s_order_behind, [], []⟩
def d_law : He.DefD := ⟨("law", none), "law", "law", defArgs s_law, defBody s_law, defScope s_law, [], []⟩
def fn : List He.DefD := [d__law_deck, d__law_is, d__law_draw, d__law_order, d__law_near, d__law_things, d_is_whole, d_is_order, d_need_order, d_turned_back, d_back_of, d_order_behind, d_law]
def fa0 : List He.Fa := [.glo "_law_deck", .glo "_law_is", .glo "_law_draw", .glo "_law_order", .glo "_law_near", .glo "_law_things", .glo "is_whole", .glo "is_order", .glo "need_order", .glo "turned_back", .glo "back_of", .glo "order_behind", .glo "law", .exc "NoFit", .glo "NoFit", .exc "NoOrder", .glo "NoOrder", .free "bool", .free "enumerate", .free "int", .free "isinstance", .free "len", .free "list", .free "max", .free "min", .free "range", .free "sorted", .int "MOST_THINGS" 12]
def fa : List He.Fa := fa0
abbrev nm : List Str := (["OrderError", "NoOrder", "NoFit", "MOST_THINGS", "is_whole", "is_order", "need_order", "turned_back", "back_of", "order_behind", "_law_deck", "_law_draw", "_law_order", "_law_things", "_law_near", "_law_is"] : List Str)
abbrev R : PySem.W.OpenRow := PySem.W.OpenLaw.row PySem.Challenge.rw_farorders_k02_backs_and_orders_behind
abbrev hk : PySem.W.Hook := He.hookD 4 fa fn
def ob (s : PySem.W.SharedT) : He.AlD := He.obsDG 4 fa fn (HandSHeadRun.getT s)
theorem ob_eq (s : PySem.W.SharedT) : ob s = hk.obs s.abs := He.obsDG_eq (HandSHeadRun.getT_eq s)
theorem run (w : World) : HandSHeadRun.RunEq R (PySem.W.view R.prog [19]) hk ob 4000 nm w := by
  intro os
  kernel_rfl
theorem facts {P : Program} {w : World} {K : PySem.W.Frag} {h : Heap} {mg : Str → Option Value} {f : Addr} (X : K.In h) (G : h.Ns mainGlobals mg) (hfa : mg ("law" : Str) = some (.ref f)) (c : He.SaysD fa fn K) :
    ∃ fd : FuncData, (∀ (s : Shared) (v : Value), BindsTo s fd ⟨[v], []⟩ [("script", v)]) ∧ ∀ base : Heap, K.In base → base.Ns mainGlobals mg → FnOk P w K mg base (L2.CX P w) 6 f fd ["script"] (spV ⟨K, mg, rhoD⟩ 1 [] h_law) := by
  obtain ⟨fd__law_deck, F__law_deck⟩ := c.def_ 0 (d := d__law_deck) rfl
  have g__law_deck := He.glo_ok X G (c.fact 0 (f := .glo "_law_deck") rfl)
  obtain ⟨fd__law_is, F__law_is⟩ := c.def_ 1 (d := d__law_is) rfl
  have g__law_is := He.glo_ok X G (c.fact 1 (f := .glo "_law_is") rfl)
  obtain ⟨fd__law_draw, F__law_draw⟩ := c.def_ 2 (d := d__law_draw) rfl
  have g__law_draw := He.glo_ok X G (c.fact 2 (f := .glo "_law_draw") rfl)
  obtain ⟨fd__law_order, F__law_order⟩ := c.def_ 3 (d := d__law_order) rfl
  have g__law_order := He.glo_ok X G (c.fact 3 (f := .glo "_law_order") rfl)
  obtain ⟨fd__law_near, F__law_near⟩ := c.def_ 4 (d := d__law_near) rfl
  have g__law_near := He.glo_ok X G (c.fact 4 (f := .glo "_law_near") rfl)
  obtain ⟨fd__law_things, F__law_things⟩ := c.def_ 5 (d := d__law_things) rfl
  have g__law_things := He.glo_ok X G (c.fact 5 (f := .glo "_law_things") rfl)
  obtain ⟨fd_is_whole, F_is_whole⟩ := c.def_ 6 (d := d_is_whole) rfl
  have g_is_whole := He.glo_ok X G (c.fact 6 (f := .glo "is_whole") rfl)
  obtain ⟨fd_is_order, F_is_order⟩ := c.def_ 7 (d := d_is_order) rfl
  have g_is_order := He.glo_ok X G (c.fact 7 (f := .glo "is_order") rfl)
  obtain ⟨fd_need_order, F_need_order⟩ := c.def_ 8 (d := d_need_order) rfl
  have g_need_order := He.glo_ok X G (c.fact 8 (f := .glo "need_order") rfl)
  obtain ⟨fd_turned_back, F_turned_back⟩ := c.def_ 9 (d := d_turned_back) rfl
  have g_turned_back := He.glo_ok X G (c.fact 9 (f := .glo "turned_back") rfl)
  obtain ⟨fd_back_of, F_back_of⟩ := c.def_ 10 (d := d_back_of) rfl
  have g_back_of := He.glo_ok X G (c.fact 10 (f := .glo "back_of") rfl)
  obtain ⟨fd_order_behind, F_order_behind⟩ := c.def_ 11 (d := d_order_behind) rfl
  have g_order_behind := He.glo_ok X G (c.fact 11 (f := .glo "order_behind") rfl)
  obtain ⟨fd_law, F_law⟩ := c.def_ 12 (d := d_law) rfl
  have g_law := He.glo_ok X G (c.fact 12 (f := .glo "law") rfl)
  have z : Fc K mg := {
    x_NoFit := xc_ok X G (c.fact 13 (f := .exc "NoFit") rfl) (c.fact 14 (f := .glo "NoFit") rfl)
    x_NoOrder := xc_ok X G (c.fact 15 (f := .exc "NoOrder") rfl) (c.fact 16 (f := .glo "NoOrder") rfl)
    f_bool := He.free_ok X G (c.fact 17 (f := .free "bool") rfl)
    f_enumerate := He.free_ok X G (c.fact 18 (f := .free "enumerate") rfl)
    f_int := He.free_ok X G (c.fact 19 (f := .free "int") rfl)
    f_isinstance := He.free_ok X G (c.fact 20 (f := .free "isinstance") rfl)
    f_len := He.free_ok X G (c.fact 21 (f := .free "len") rfl)
    f_list := He.free_ok X G (c.fact 22 (f := .free "list") rfl)
    f_max := He.free_ok X G (c.fact 23 (f := .free "max") rfl)
    f_min := He.free_ok X G (c.fact 24 (f := .free "min") rfl)
    f_range := He.free_ok X G (c.fact 25 (f := .free "range") rfl)
    f_sorted := He.free_ok X G (c.fact 26 (f := .free "sorted") rfl)
    i_MOST_THINGS := He.int_ok X G (c.fact 27 (f := .int "MOST_THINGS" 12) rfl)
  }
  have e := hfa.symm.trans g_law
  cases e
  have b := FunD.bindsA (ps := ["script"]) F_law fun _ _ _ _ _ _ us hl => match us, hl with | [_], _ => rfl
  refine ⟨fd_law, fun s v => b s [v] rfl, fun base _ _ => ?_⟩
  have c__law_deck := ok__law_deck (P := P) (w := w) (base := base) F__law_deck g__law_deck z 
  have c__law_is := ok__law_is (P := P) (w := w) (base := base) F__law_is g__law_is z 
  have c__law_draw := ok__law_draw (P := P) (w := w) (base := base) F__law_draw g__law_draw z 
  have c__law_order := ok__law_order (P := P) (w := w) (base := base) F__law_order g__law_order z c__law_draw
  have c__law_near := ok__law_near (P := P) (w := w) (base := base) F__law_near g__law_near z c__law_draw c__law_order
  have c__law_things := ok__law_things (P := P) (w := w) (base := base) F__law_things g__law_things z c__law_draw
  have c_is_whole := ok_is_whole (P := P) (w := w) (base := base) F_is_whole g_is_whole z 
  have c_is_order := ok_is_order (P := P) (w := w) (base := base) F_is_order g_is_order z c_is_whole
  have c_need_order := ok_need_order (P := P) (w := w) (base := base) F_need_order g_need_order z c_is_order
  have c_turned_back := ok_turned_back (P := P) (w := w) (base := base) F_turned_back g_turned_back z 
  have c_back_of := ok_back_of (P := P) (w := w) (base := base) F_back_of g_back_of z c_need_order c_turned_back
  have c_order_behind := ok_order_behind (P := P) (w := w) (base := base) F_order_behind g_order_behind z c_need_order
  exact ok_law F_law z c__law_deck c__law_is c__law_near c__law_order c__law_things c_back_of c_order_behind
/-- what is left: the law computes True -/
def Left : Prop := ∀ ns : List Int, ns.length ≤ 63 → ∃ e, h_law [.sc ns] = some (.ret (.fr (.bool true)) e)
end K02

set_option maxRecDepth 100000
namespace K02
open PySem L2 VL VP PySem.W PySem.SeqAt
abbrev LL (xs : List Int) : PyData := .list (xs.map Datum.toD)
theorem t_is (xs : List Int) (hl : xs.length ≤ 1000) : ∃ e, h__law_is [.fr (LL xs), .fr (LL xs)] = some (.ret (.fr (.bool true)) e) := by
  let E : VL.Env := [some (.fr (LL xs)), some (.fr (LL xs)), none]
  have c : fLc (iSeq (fVar 0)) (gN 2) (fTest (fIsi .bool (fVar 2))) (fVar 2) [2] E = some (.ok (.b (.ow [])) E) := by
    have kk := lcL_pure (g := gN 2) (t := fTest (fIsi .bool (fVar 2))) (f := fVar 2) (vs := [2]) (Datum.toD : Int → PyData) E (fun _ => false) Datum.toD xs [] (by show 0 + xs.length ≤ big; unfold big; omega) (fun y _ => ⟨_, E.set 2 (some (.fr (Datum.toD y))), rfl, rfl, fun _ => rfl, fun z => by cases z⟩)
    rw [List.filter_eq_nil_iff.mpr (fun _ _ => by decide)] at kk
    exact kk
  have q1 : oEq (LL xs) (LL xs) = some (.fr (.bool true)) := by
    have := o_eqL xs xs
    rw [decide_eq_true rfl] at this
    exact this
  have q2 : oEq (.list []) (.list []) = some (.fr (.bool true)) := by
    have := o_eq ([] : List Int) []
    rw [decide_eq_true rfl] at this
    exact this
  have t3 : fBin oEq (fLc (iSeq (fVar 0)) (gN 2) (fTest (fIsi .bool (fVar 2))) (fVar 2) [2]) (fLst dNil) E = some (.ok (.b (.fr (.bool true))) E) := by
    rw [x_fBin, c]
    simp [q2]
  have t2 : fBin oEq (fVar 0) (fVar 1) E = some (.ok (.b (.fr (.bool true))) E) := by simp [E, q1]
  have t1 : fIsi .list (fVar 0) E = some (.ok (.b (.fr (.bool true))) E) := rfl
  refine ⟨E, ?_⟩
  unfold h__law_is
  refine runF_rt (e := E) rfl ?_
  unfold b__law_is
  rw [x_sRetO, x_fAndV, t1, x_bnd_ok, x_res_b, x_dat1]
  dsimp only
  rw [x_fAndV, t2, x_bnd_ok, x_res_b, x_dat1]
  dsimp only
  rw [t3]
  rfl
theorem getD_range (ys : List Int) (n : Nat) (h : ys.length = n) : (List.range n).map (fun i => ys.getD i 0) = ys := by
  apply List.ext_getElem?
  intro j
  by_cases hj : j < n
  · rw [List.getElem?_map, List.getElem?_range hj, List.getElem?_eq_getElem (by omega)]
    show some (ys.getD j 0) = _
    rw [List.getD_eq_getElem?_getD, List.getElem?_eq_getElem (by omega)]
    rfl
  · rw [List.getElem?_eq_none (by simp; omega), List.getElem?_eq_none (by omega)]
theorem index_at {n : Nat} {xs : List Int} (h : IsOrd n xs) {t : Nat} (ht : t < n) : mIndex (xs.map Datum.toD) [.int (t : Int)] = some (.fr (.int ((backL n xs).getD t 0))) := by
  have hm : (t : Int) ∈ xs := h.mem_iff.mpr (by unfold iota; exact List.mem_map.mpr ⟨t, List.mem_range.mpr ht, rfl⟩)
  obtain ⟨j, hj, hx⟩ := List.mem_iff_getElem.mp hm
  have hx' : xs[j]? = some (t : Int) := by rw [List.getElem?_eq_getElem hj, hx]
  have hb := back_get h hx'
  rw [Int.toNat_natCast] at hb
  have hp : dataPlace (xs.map Datum.toD) (Datum.toD (t : Int)) = some j := place_some hx' fun m hm e => by
    have := nd_ix h.nodup e hx'
    omega
  have hs1 : shaped (.int (t : Int)) = true := shaped_toD (t : Int)
  have hs2 : shaped (.list (xs.map Datum.toD)) = true := shaped_toD xs
  unfold mIndex
  dsimp only
  rw [if_pos ⟨hs1, hs2⟩]
  have hp' : dataPlace (xs.map Datum.toD) (.int (t : Int)) = some j := hp
  rw [hp', List.getD_eq_getElem?_getD, hb]
  rfl
end K02

set_option maxRecDepth 100000
namespace K02
open PySem L2 VL VP PySem.W PySem.SeqAt
/-- script, deck, k, one, other, handed, back, behind, place, turn, found, told, twice, thing -/
abbrev E14 (ns : List Int) (d : PyData) (a2 a3 a4 a5 a6 a7 a8 a9 a10 a11 a12 : Option B) : VL.Env := [some (.sc ns), some (.rs 0 d), a2, a3, a4, a5, a6, a7, a8, a9, a10, a11, a12, none]
abbrev handed (xs ys : List Int) : Option B := some (.fr (.list [LL xs, LL ys]))
abbrev fL (xs : List Int) : Option B := some (.fr (LL xs))
abbrev oL (xs : List Int) : Option B := some (.ow (xs.map Datum.toD))
theorem x_fMthR {g : List PyData → List PyData → Option B} {fx : FE} {fd : FD} {e : VL.Env} : fMthR g fx fd e = bnd (fx e) fun o e1 => match res e1 o with
  | some (.list _) => bnd (fd e1) fun as e2 => match res e2 o with
    | some (.list ds) => (g ds as).bind fun b => some (.ok (.b b) e2)
    | _ => none
  | _ => none := rfl
section
variable {ns : List Int} {d : PyData} {k : Option B} {n : Nat} {xs ys : List Int}
theorem back_ok (h : IsOrd n xs) (h2 : n ≤ 12) : (sAsg 6 (fLc (iRange1 (fCB gLen (aCons (fVar 3) aNil))) (gN 13) tTrue (fMthR mIndex (fVar 3) (dCons (fVar 13) dNil)) [13])) (E14 ns d k (fL xs) (fL ys) (handed xs ys) none none none none none none none) = some (.nx (E14 ns d k (fL xs) (fL ys) (handed xs ys) (fL (backL n xs)) none none none none none none)) := by
  let E := E14 ns d k (fL xs) (fL ys) (handed xs ys) none none none none none none none
  have hl := h.length
  have it : iRange1 (fCB gLen (aCons (fVar 3) aNil)) E = some (.ok ((List.range n).map fun (i : Nat) => PyData.int (i : Int)) E) := by
    have q : lim (n : Int) = true := lim_small (by omega)
    simp [E, hl, q, rngNat]
  have c := lcL_pure (g := gN 13) (t := tTrue) (f := fMthR mIndex (fVar 3) (dCons (fVar 13) dNil)) (vs := [13]) (fun (i : Nat) => PyData.int (i : Int)) E (fun _ => true) (fun i => .int ((backL n xs).getD i 0)) (List.range n) [] (by show 0 + (List.range n).length ≤ big; rw [List.length_range]; unfold big; omega) (fun t ht => by
    have hi := index_at h (List.mem_range.mp ht)
    refine ⟨_, E.set 13 (some (.fr (.int (t : Int)))), rfl, rfl, (fun z => by cases z), fun _ => ⟨.b (.fr (.int ((backL n xs).getD t 0))), E.set 13 (some (.fr (.int (t : Int)))), _, ?_, rfl, rfl⟩⟩
    have v3 : fVar 3 (E.set 13 (some (.fr (.int (t : Int))))) = some (.ok (.s 3) (E.set 13 (some (.fr (.int (t : Int)))))) := rfl
    have r3 : res (E.set 13 (some (.fr (.int (t : Int))))) (.s 3) = some (LL xs) := rfl
    have d3 : dCons (fVar 13) dNil (E.set 13 (some (.fr (.int (t : Int))))) = some (.ok [.int (t : Int)] (E.set 13 (some (.fr (.int (t : Int)))))) := rfl
    rw [x_fMthR, v3, x_bnd_ok, r3]
    dsimp only
    rw [d3, x_bnd_ok, r3]
    dsimp only
    rw [hi]
    rfl)
  rw [List.filter_eq_self.mpr (fun _ _ => rfl)] at c
  have e1 : (List.range n).map (fun i => PyData.int ((backL n xs).getD i 0)) = (backL n xs).map Datum.toD := by
    have := congrArg (List.map (Datum.toD : Int → PyData)) (getD_range (backL n xs) n (backL_len n xs))
    rw [List.map_map] at this
    exact this
  rw [e1] at c
  rw [x_sAsg, x_fLc, it, x_bnd_ok]
  have ef : forget [13] E = E := rfl
  rw [ef, c]
  rfl
theorem beh_ok (h : IsOrd n xs) (h' : IsOrd n ys) (h2 : n ≤ 12) : (sFor (iRange1 (fCB gLen (aCons (fVar 3) aNil))) (gN 8) (sExpr (fMth 7 mAppend (dCons (fBin oIx (fVar 3) (fBin oIx (fVar 4) (fVar 8))) dNil))) [8]) (E14 ns d k (fL xs) (fL ys) (handed xs ys) (fL (backL n xs)) (oL []) none none none none none) = some (.nx (E14 ns d k (fL xs) (fL ys) (handed xs ys) (fL (backL n xs)) (oL (behL xs ys)) none none none none none)) := by
  have hl := h.length
  have hl' := h'.length
  let E := fun s : List Int => E14 ns d k (fL xs) (fL ys) (handed xs ys) (fL (backL n xs)) (oL s) none none none none none
  have it : iRange1 (fCB gLen (aCons (fVar 3) aNil)) (E []) = some (.ok ((List.range n).map fun (i : Nat) => PyData.int (i : Int)) (E [])) := by
    have q : lim (n : Int) = true := lim_small (by omega)
    simp [E, hl, q, rngNat]
  have fl : ∀ (l : List Nat) (s : List Int), l.foldl (fun s i => s ++ [xs.getD (ys.getD i 0).toNat 0]) s = s ++ l.map fun i => xs.getD (ys.getD i 0).toNat 0 := by
    intro l
    induction l with
    | nil => intro s; simp
    | cons x l ih => intro s; rw [List.foldl_cons, ih, List.map_cons, List.append_assoc]; rfl
  have main := for_fold (g := gN 8) (body := sExpr (fMth 7 mAppend (dCons (fBin oIx (fVar 3) (fBin oIx (fVar 4) (fVar 8))) dNil))) (dead := [8]) (fun (i : Nat) => PyData.int (i : Int)) E (fun s i => s ++ [xs.getD (ys.getD i 0).toNat 0]) (fun s => rfl) (List.range n) [] (fun pre i suf e => by
    have hi : i < n := List.mem_range.mp (by rw [e]; simp)
    have hlen : (pre.foldl (fun s i => s ++ [xs.getD (ys.getD i 0).toNat 0]) []).length ≤ 12 := by
      rw [fl]
      have h1 := congrArg List.length e
      rw [List.length_range, List.length_append, List.length_cons] at h1
      simp
      omega
    generalize pre.foldl (fun s i => s ++ [xs.getD (ys.getD i 0).toNat 0]) [] = s at hlen
    have hy : ys[i]? = some (ys.getD i 0) := by rw [List.getD_eq_getElem?_getD, List.getElem?_eq_getElem (by omega)]; rfl
    obtain ⟨g1, g2⟩ := h'.mem (List.mem_of_getElem? hy)
    have a1 : atI (ys.map (Datum.toD : Int → PyData)) (i : Int) = some (.int (ys.getD i 0)) := by rw [atI_map, atI_get? hy]; rfl
    have a2 := at_beh h g1 g2
    have a3 : mAppend (s.map Datum.toD) [Datum.toD (xs.getD (ys.getD i 0).toNat 0)] = some (.fr .none, (s ++ [xs.getD (ys.getD i 0).toNat 0]).map Datum.toD) := by
      unfold mAppend
      dsimp only
      rw [if_pos (by rw [List.length_map]; unfold big; omega), List.map_append]
      rfl
    refine ⟨_, (E (s ++ [xs.getD (ys.getD i 0).toNat 0])).set 8 (some (.fr (.int (i : Int)))), rfl, ?_, rfl⟩
    have dd : dCons (fBin oIx (fVar 3) (fBin oIx (fVar 4) (fVar 8))) dNil ((E s).set 8 (some (.fr (.int (i : Int))))) = some (.ok [Datum.toD (xs.getD (ys.getD i 0).toNat 0)] ((E s).set 8 (some (.fr (.int (i : Int)))))) := by
      have b : fBin oIx (fVar 4) (fVar 8) ((E s).set 8 (some (.fr (.int (i : Int))))) = some (.ok (.b (.fr (.int (ys.getD i 0)))) ((E s).set 8 (some (.fr (.int (i : Int)))))) := by
        show (oIx (LL ys) (.int (i : Int))).bind (fun z => some (Out.ok (O.b z) _)) = _
        rw [x_oIxL, a1]
        rfl
      rw [x_dCons, x_fBin, show fVar 3 ((E s).set 8 (some (.fr (.int (i : Int))))) = some (.ok (.s 3) ((E s).set 8 (some (.fr (.int (i : Int)))))) from rfl, x_bnd_ok, b, x_bnd_ok]
      show bnd ((oIx (LL xs) (.int (ys.getD i 0))).bind (fun z => some (Out.ok (O.b z) _))) _ = _
      rw [x_oIxL, a2]
      rfl
    rw [x_sExpr, x_fMth, show at? ((E s).set 8 (some (.fr (.int (i : Int))))) 7 = oL s from rfl]
    dsimp only
    rw [dd, x_bnd_ok, show at? ((E s).set 8 (some (.fr (.int (i : Int))))) 7 = oL s from rfl]
    dsimp only
    rw [a3]
    rfl)
  have e2 : (List.range n).foldl (fun s i => s ++ [xs.getD (ys.getD i 0).toNat 0]) [] = behL xs ys := by
    rw [fl, List.nil_append]
    have := congrArg (List.map fun y : Int => xs.getD y.toNat 0) (getD_range ys n hl')
    rw [List.map_map] at this
    exact this
  rw [e2] at main
  rw [x_sFor]
  show bndS (iRange1 (fCB gLen (aCons (fVar 3) aNil)) (E [])) _ = _
  rw [it, x_bndS_ok]
  exact main
end
end K02

set_option maxRecDepth 100000
namespace K02
open PySem L2 VL VP PySem.W PySem.SeqAt
theorem hand_ne (xs ys : List Int) : oNe (.list [LL xs, LL ys]) (.list [LL xs, LL ys]) = some (.fr (.bool false)) := by
  have := o_ne ([xs, ys] : List (List Int)) [xs, ys]
  rw [decide_eq_true rfl] at this
  exact this
theorem beh_len (xs ys : List Int) : (behL xs ys).length = ys.length := by unfold behL; rw [List.length_map]
def turnB : FS := (sSeq (sOwn 10 (fCall h_back_of 1 [] (aF (fBin oIx (fVar 5) (fC (.int 0))) aNil)))
  (sSeq (sOwn 11 (fCall h_order_behind 2 [] (aF (fBin oIx (fVar 5) (fC (.int 0))) (aF (fBin oIx (fVar 5) (fC (.int 1))) aNil))))
  (sSeq (sIf (tOr (tNot (fTest (fCallP h__law_is 2 (aP (fVar 10) (aP (fVar 6) aNil))))) (tOr (tNot (fTest (fCallP h__law_is 2 (aP (fVar 11) (aP (fVar 7) aNil))))) (fTest (fBin oNe (fVar 5) (fLst (dCons (fVar 3) (dCons (fVar 4) dNil))))))) (sRetO (fC (.bool false))) sNil)
  (sSeq (sExpr (fMth 10 mAppend (dCons (fC (.int 0)) dNil)))
  (sExpr (fMth 11 mAppend (dCons (fC (.int 0)) dNil)))))))
section
variable {ns : List Int} {d : PyData} {k : Option B} {n : Nat} {xs ys : List Int}
theorem app0 (l : List Int) (hl : l.length ≤ 1000) : mAppend (l.map Datum.toD) [.int 0] = some (.fr .none, l.map Datum.toD ++ [.int 0]) := by
  unfold mAppend
  dsimp only
  rw [if_pos (by rw [List.length_map]; unfold big; omega)]
theorem turn_ok (h : IsOrd n xs) (h' : IsOrd n ys) (h1 : 1 ≤ n) (h2 : n ≤ 12) (x : PyData) : ∃ e2, turnB ((E14 ns d k (fL xs) (fL ys) (handed xs ys) (fL (backL n xs)) (oL (behL xs ys)) none none none none none).set 9 (some (.fr x))) = some (.nx e2) ∧
    forget [9, 10, 11] e2 = E14 ns d k (fL xs) (fL ys) (handed xs ys) (fL (backL n xs)) (oL (behL xs ys)) none none none none none := by
  obtain ⟨e1, q1⟩ := t_back_of h h1 h2
  obtain ⟨e2, q2⟩ := t_order_behind h h' h1 h2
  have lb := backL_len n xs
  have lh : (behL xs ys).length = n := (beh_len xs ys).trans h'.length
  obtain ⟨e3, q3⟩ := t_is (backL n xs) (by omega)
  obtain ⟨e4, q4⟩ := t_is (behL xs ys) (by omega)
  have p3 := app0 (backL n xs) (by omega)
  have p4 := app0 (behL xs ys) (by omega)
  have a0 : atI [LL xs, LL ys] 0 = some (LL xs) := rfl
  have a1 : atI [LL xs, LL ys] 1 = some (LL ys) := rfl
  have hn := hand_ne xs ys
  refine ⟨E14 ns d k (fL xs) (fL ys) (handed xs ys) (fL (backL n xs)) (oL (behL xs ys)) none (some (.fr x)) (some (.ow ((backL n xs).map Datum.toD ++ [.int 0]))) (some (.ow ((behL xs ys).map Datum.toD ++ [.int 0]))) none, ?_, rfl⟩
  unfold turnB
  simp [E14, fL, oL, handed, a0, a1, q1, q2, q3, q4, p3, p4, hn]
def bodyK : FS := (sSeq (sAsg 3 (fCall h__law_order 2 [(0, 1)] (aM 1 (aF (fCall h__law_things 1 [(0, 1)] (aM 1 aNil)) aNil))))
  (sSeq (sAsg 4 (fCall h__law_near 2 [(0, 1)] (aM 1 (aF (fVar 3) aNil))))
  (sSeq (sAsg 5 (fLst (dCons (fCB gList (aCons (fVar 3) aNil)) (dCons (fCB gList (aCons (fVar 4) aNil)) dNil))))
  (sSeq (sAsg 6 (fLc (iRange1 (fCB gLen (aCons (fVar 3) aNil))) (gN 13) tTrue (fMthR mIndex (fVar 3) (dCons (fVar 13) dNil)) [13]))
  (sSeq (sOwn 7 (fLst dNil))
  (sSeq (sFor (iRange1 (fCB gLen (aCons (fVar 3) aNil))) (gN 8) (sExpr (fMth 7 mAppend (dCons (fBin oIx (fVar 3) (fBin oIx (fVar 4) (fVar 8))) dNil))) [8])
  (sSeq (sFor (iRange1 (fC (.int 2))) (gN 9) turnB [9, 10, 11])
  (sSeq (sAsg 12 (fLc (iSeq (fVar 3)) (gN 13) tTrue (fBin oIx (fVar 3) (fVar 13)) [13]))
  (sIf (tOr (tNot (fTest (fCallP h__law_is 2 (aP (fCall h_order_behind 2 [] (aF (fBin oIx (fVar 5) (fC (.int 0))) (aF (fBin oIx (fVar 5) (fC (.int 0))) aNil))) (aP (fVar 12) aNil))))) (fTest (fBin oNe (fVar 5) (fLst (dCons (fVar 3) (dCons (fVar 4) dNil)))))) (sRetO (fC (.bool false))) sNil)))))))))
abbrev E1 (ns : List Int) (d : PyData) : VL.Env := E14 ns d none none none none none none none none none none none
theorem body_ok {x : PyData} (ok : DeckOk d) : ∃ d' e2, DeckOk d' ∧ bodyK ((E1 ns d).set 2 (some (.fr x))) = some (.nx e2) ∧ forget [2, 3, 4, 5, 6, 7, 8, 9, 10, 11, 12] e2 = E1 ns d' := by
  obtain ⟨n, d1, e1, h1, h2, ok1, hn, he1⟩ := t__law_things ok
  obtain ⟨xs, d2, e2, hx, ok2, ho, he2⟩ := t__law_order (n := n) ok1 h1 h2
  obtain ⟨ys, d3, e3, hy, ok3, hz, he3⟩ := t__law_near ok2 hx h1 h2
  let K := some (B.fr x)
  have s1 : (sAsg 3 (fCall h__law_order 2 [(0, 1)] (aM 1 (aF (fCall h__law_things 1 [(0, 1)] (aM 1 aNil)) aNil)))) ((E1 ns d).set 2 (some (.fr x))) = some (.nx (E14 ns d2 K (fL xs) none none none none none none none none none)) := by
    simp [E1, E14, fL, hn, he1, ho, he2, K]
  have s2 : (sAsg 4 (fCall h__law_near 2 [(0, 1)] (aM 1 (aF (fVar 3) aNil)))) (E14 ns d2 K (fL xs) none none none none none none none none none) = some (.nx (E14 ns d3 K (fL xs) (fL ys) none none none none none none none none)) := by
    simp [E14, fL, hz, he3]
  have s3 : (sAsg 5 (fLst (dCons (fCB gList (aCons (fVar 3) aNil)) (dCons (fCB gList (aCons (fVar 4) aNil)) dNil)))) (E14 ns d3 K (fL xs) (fL ys) none none none none none none none none) = some (.nx (E14 ns d3 K (fL xs) (fL ys) (handed xs ys) none none none none none none none)) := by simp [E14, fL, handed]
  have s4 := back_ok (ns := ns) (d := d3) (k := K) (ys := ys) hx h2
  have s5 : (sOwn 7 (fLst dNil)) (E14 ns d3 K (fL xs) (fL ys) (handed xs ys) (fL (backL n xs)) none none none none none none) = some (.nx (E14 ns d3 K (fL xs) (fL ys) (handed xs ys) (fL (backL n xs)) (oL []) none none none none none)) := rfl
  have s6 := beh_ok (ns := ns) (d := d3) (k := K) hx hy h2
  have s7 : (sFor (iRange1 (fC (.int 2))) (gN 9) turnB [9, 10, 11]) (E14 ns d3 K (fL xs) (fL ys) (handed xs ys) (fL (backL n xs)) (oL (behL xs ys)) none none none none none) = some (.nx (E14 ns d3 K (fL xs) (fL ys) (handed xs ys) (fL (backL n xs)) (oL (behL xs ys)) none none none none none)) := by
    obtain ⟨t1, g1, g2⟩ := turn_ok (ns := ns) (d := d3) (k := K) hx hy h1 h2 (.int 0)
    obtain ⟨t2, g3, g4⟩ := turn_ok (ns := ns) (d := d3) (k := K) hx hy h1 h2 (.int 1)
    have it : iRange1 (fC (.int 2)) (E14 ns d3 K (fL xs) (fL ys) (handed xs ys) (fL (backL n xs)) (oL (behL xs ys)) none none none none none) = some (.ok [.int 0, .int 1] (E14 ns d3 K (fL xs) (fL ys) (handed xs ys) (fL (backL n xs)) (oL (behL xs ys)) none none none none none)) := rfl
    rw [x_sFor, it, x_bndS_ok, forL_nx (g := gN 9) rfl g1, g2, forL_nx (g := gN 9) rfl g3, g4]
    rfl
  have s8 : (sAsg 12 (fLc (iSeq (fVar 3)) (gN 13) tTrue (fBin oIx (fVar 3) (fVar 13)) [13])) (E14 ns d3 K (fL xs) (fL ys) (handed xs ys) (fL (backL n xs)) (oL (behL xs ys)) none none none none none) = some (.nx (E14 ns d3 K (fL xs) (fL ys) (handed xs ys) (fL (backL n xs)) (oL (behL xs ys)) none none none none (fL (behL xs xs)))) := by
    let E := E14 ns d3 K (fL xs) (fL ys) (handed xs ys) (fL (backL n xs)) (oL (behL xs ys)) none none none none none
    have c := lcL_pure (g := gN 13) (t := tTrue) (f := fBin oIx (fVar 3) (fVar 13)) (vs := [13]) (Datum.toD : Int → PyData) E (fun _ => true) (fun y => Datum.toD (xs.getD y.toNat 0)) xs [] (by show 0 + xs.length ≤ big; rw [hx.length]; unfold big; omega) (fun y hy => by
      obtain ⟨g1, g2⟩ := hx.mem hy
      have a := at_beh hx g1 g2
      refine ⟨_, E.set 13 (some (.fr (.int y))), rfl, rfl, (fun z => by cases z), fun _ => ⟨.b (.fr (Datum.toD (xs.getD y.toNat 0))), E.set 13 (some (.fr (.int y))), _, ?_, rfl, rfl⟩⟩
      show (oIx (LL xs) (.int y)).bind (fun z => some (Out.ok (O.b z) _)) = _
      rw [x_oIxL, a]
      rfl)
    rw [List.filter_eq_self.mpr (fun _ _ => rfl)] at c
    have e : xs.map (fun y => (Datum.toD (xs.getD y.toNat 0) : PyData)) = (behL xs xs).map Datum.toD := by
      unfold behL
      rw [List.map_map]
      rfl
    rw [e] at c
    have it : iSeq (fVar 3) E = some (.ok (xs.map Datum.toD) E) := rfl
    rw [x_sAsg, x_fLc, it, x_bnd_ok, show forget [13] E = E from rfl, c]
    rfl
  have s9 : (sIf (tOr (tNot (fTest (fCallP h__law_is 2 (aP (fCall h_order_behind 2 [] (aF (fBin oIx (fVar 5) (fC (.int 0))) (aF (fBin oIx (fVar 5) (fC (.int 0))) aNil))) (aP (fVar 12) aNil))))) (fTest (fBin oNe (fVar 5) (fLst (dCons (fVar 3) (dCons (fVar 4) dNil)))))) (sRetO (fC (.bool false))) sNil) (E14 ns d3 K (fL xs) (fL ys) (handed xs ys) (fL (backL n xs)) (oL (behL xs ys)) none none none none (fL (behL xs xs))) = some (.nx (E14 ns d3 K (fL xs) (fL ys) (handed xs ys) (fL (backL n xs)) (oL (behL xs ys)) none none none none (fL (behL xs xs)))) := by
    obtain ⟨e5, q5⟩ := t_order_behind hx hx h1 h2
    obtain ⟨e6, q6⟩ := t_is (behL xs xs) (by rw [beh_len, hx.length]; omega)
    have a0 : atI [LL xs, LL ys] 0 = some (LL xs) := rfl
    have hn := hand_ne xs ys
    simp [E14, fL, oL, handed, a0, q5, q6, hn]
  exact ⟨d3, _, ok3, (seq_nx s1).trans ((seq_nx s2).trans ((seq_nx s3).trans ((seq_nx s4).trans ((seq_nx s5).trans ((seq_nx s6).trans ((seq_nx s7).trans ((seq_nx s8).trans s9))))))), rfl⟩
def ending : FE := (fAndV (fBin oEq (fCall h_back_of 1 [] (aF (fLst (dCons (fC (.int 0)) dNil)) aNil)) (fLst (dCons (fC (.int 0)) dNil))) (fBin oEq (fCall h_order_behind 2 [] (aF (fLst (dCons (fC (.int 1)) (dCons (fC (.int 2)) (dCons (fC (.int 0)) dNil)))) (aF (fLst (dCons (fC (.int 0)) (dCons (fC (.int 2)) (dCons (fC (.int 1)) dNil)))) aNil))) (fLst (dCons (fC (.int 1)) (dCons (fC (.int 0)) (dCons (fC (.int 2)) dNil))))))
theorem end_ok : ending (E1 ns d) = some (.ok (.b (.fr (.bool true))) (E1 ns d)) := by
  obtain ⟨e1, h1⟩ := t_back_of (n := 1) (xs := [0]) (List.Perm.refl _) (by decide) (by decide)
  obtain ⟨e2, h2⟩ := t_order_behind (n := 3) (xs := [1, 2, 0]) (ys := [0, 2, 1]) (show ([1, 2, 0] : List Int).Perm [0, 1, 2] by decide) (show ([0, 2, 1] : List Int).Perm [0, 1, 2] by decide) (by decide) (by decide)
  have h1' : h_back_of [.fr (.list [.int 0])] = some (.ret (.ow [.int 0]) e1) := h1
  have h2' : h_order_behind [.fr (.list [.int 1, .int 2, .int 0]), .fr (.list [.int 0, .int 2, .int 1])] = some (.ret (.ow [.int 1, .int 0, .int 2]) e2) := h2
  have q1 : oEq (.list [.int 0]) (.list [.int 0]) = some (.fr (.bool true)) := by
    have := o_eq ([0] : List Int) [0]
    rw [decide_eq_true rfl] at this
    exact this
  have q2 : oEq (.list [.int 1, .int 0, .int 2]) (.list [.int 1, .int 0, .int 2]) = some (.fr (.bool true)) := by
    have := o_eq ([1, 0, 2] : List Int) [1, 0, 2]
    rw [decide_eq_true rfl] at this
    exact this
  simp [ending, h1', h2', q1, q2]
end
theorem left (ns : List Int) (_ : ns.length ≤ 63) : ∃ e, h_law [.sc ns] = some (.ret (.fr (.bool true)) e) := by
  obtain ⟨d, ed, ok, hd⟩ := t__law_deck ns
  let e0 : VL.Env := [some (.sc ns), none, none, none, none, none, none, none, none, none, none, none, none, none]
  have s1 : (sOwn 1 (fCall h__law_deck 1 [] (aF (fVar 0) aNil))) e0 = some (.nx (E1 ns d)) := by simp [e0, E1, E14, hd]
  have s2 : ∃ e', (sFor (iRange1 (fC (.int 10))) (gN 2) bodyK [2, 3, 4, 5, 6, 7, 8, 9, 10, 11, 12]) (E1 ns d) = some (.nx e') ∧ ∃ d', DeckOk d' ∧ e' = E1 ns d' := by
    have it : iRange1 (fC (.int 10)) (E1 ns d) = some (.ok (rngN 0 10) (E1 ns d)) := rfl
    rw [x_sFor, it, x_bndS_ok]
    refine for_inv (fun e => ∃ d', DeckOk d' ∧ e = E1 ns d') (fun e ⟨_, _, h⟩ => by rw [h]; rfl) _ _ ⟨d, ok, rfl⟩ fun y _ e ⟨d', ok', he⟩ => ?_
    subst he
    obtain ⟨d3, e3, ok3, g1, g2⟩ := body_ok (ns := ns) (x := y) ok'
    exact ⟨_, e3, rfl, g1, d3, ok3, g2⟩
  obtain ⟨e', s2, d', ok', rfl⟩ := s2
  refine ⟨E1 ns d', ?_⟩
  unfold h_law
  refine runF_rt (e := e0) rfl ?_
  show sSeq (sOwn 1 (fCall h__law_deck 1 [] (aF (fVar 0) aNil))) (sSeq (sFor (iRange1 (fC (.int 10))) (gN 2) bodyK [2, 3, 4, 5, 6, 7, 8, 9, 10, 11, 12]) (sRetO ending)) e0 = _
  rw [seq_nx s1, seq_nx s2, x_sRetO, end_ok]
  rfl
end K02

set_option maxRecDepth 100000
set_option maxHeartbeats 0
open PySem PySem.W PySem.Calls PyProof.Rows
theorem PySem.Challenge.cw_farorders_k02_backs_and_orders_behind_holds : PySem.Challenge.rw_farorders_k02_backs_and_orders_behind.Holds := by
  w_on; o_law
  refine HandSHeadRun.head_any (r := OpenLaw.row PySem.Challenge.rw_farorders_k02_backs_and_orders_behind) (q := view (OpenLaw.row PySem.Challenge.rw_farorders_k02_backs_and_orders_behind).prog [19]) (H := K02.hk) (ob := K02.ob) (M := 4000) (loose := K02.nm) (d := HandSHeadRun.topDef (OpenLaw.row PySem.Challenge.rw_farorders_k02_backs_and_orders_behind).prog 19) (kwd := []) K02.ob_eq
    (by kernel_rfl) (fun s => by kernel_rfl) K02.run (by kernel_rfl) (by kernel_rfl) (by kernel_rfl) (by rfl) (by first | assumption | decide +kernel) (by decide +kernel) ⟨rfl, rfl, rfl, rfl, rfl, by decide +kernel⟩ ?hw ?hc
  case hw => w_witness2
  case hc =>
    refine VL.walk_ofW (l := PySem.Challenge.rw_farorders_k02_backs_and_orders_behind) (n := 63) (k := 6) (x := "script") rfl (by decide) (by kernel_rfl) ⟨rfl, by decide, by decide⟩ ?F
    intro w mg fa h Y G hmg0
    obtain ⟨K, KX, c⟩ := Y
    have hmg : mg ("law" : PySem.Str) = some (.ref fa) := by
      have e : (HandSHeadRun.topDef (OpenLaw.row PySem.Challenge.rw_farorders_k02_backs_and_orders_behind).prog 19).name = ("law" : PySem.Str) := by kernel_rfl
      rw [← e]
      exact hmg0
    obtain ⟨fd, hb, hF⟩ := K02.facts (P := (PySem.Challenge.rw_farorders_k02_backs_and_orders_behind).prog) (w := w) KX G hmg c
    exact ⟨K, fd, _, KX, hb, fun H a nums hl _ hS => VL.law_end hS (K02.left nums hl), hF⟩
