import PyProof.Rows.All
import Wide.All
import OpenK.AllK
import Wide.FinOn
import HandS.ForExc
import HandS.Comp
import HandS.Text
import HandS.Wide
import HandS.TupAny
import HandS.TupMul
import HandS.Deep
import HandS.IsInst
import HandS.ExcIs
import HandS.Style
import HandS.Flow
import HandS.Iter
import HandS.Evl
import KE.KTupSum
import KE.DataMinMax
import HandS.Conv
import HandS.Dict
import HandS.Codes
import KE.RegKIsAll
import PySem.Challenge.RW_racedice_k02_whole_board_texts
set_option Elab.async false
set_option linter.all false
/-! # R1: a small language over plain data (IR), and what it computes -/
namespace R
open PySem
/-! ### data -/
/-- plain data: never changed once made -/
inductive P where
  | non | bl (b : Bool) | int (i : Int) | str (s : Str) | tup (xs : List P) | lst (xs : List P) | exc (n : Str)
  deriving Inhabited, Repr
/-- a value in a slot, or of an expression: data; a thing of the store; a list just made; the script -/
inductive Rv where
  | p (d : P) | o (k : Nat) | n (ds : List P) | scr
  deriving Inhabited, Repr
/-- a thing of the store -/
inductive MO where
  | lst (xs : List P) | froz (xs : List P)
  deriving Inhabited, Repr
abbrev Mu := List MO
abbrev Env := List (Option Rv)
inductive Out (α : Type) where
  | bad | ok (a : α) (μ : Mu) | exc (n : Str) (μ : Mu)
  deriving Repr
def Out.bind {α β : Type} (x : Out α) (f : α → Mu → Out β) : Out β := match x with
  | .bad => .bad
  | .ok a μ => f a μ
  | .exc n μ => .exc n μ
def Out.noexc {α : Type} : Out α → Out α
  | .ok a μ => .ok a μ
  | _ => .bad
theorem Out.bind_ok {α β : Type} {a : α} {μ : Mu} {f : α → Mu → Out β} : (Out.ok a μ).bind f = f a μ := rfl
theorem Out.bind_exc {α β : Type} {n : Str} {μ : Mu} {f : α → Mu → Out β} : (Out.exc n μ : Out α).bind f = .exc n μ := rfl
theorem Out.bind_bad {α β : Type} {f : α → Mu → Out β} : (Out.bad : Out α).bind f = .bad := rfl
def Out.of {α : Type} (x : Option α) (μ : Mu) : Out α := match x with
  | some a => .ok a μ
  | none => .bad
def Rv.out (x : Option Rv) (μ : Mu) : Out Rv := Out.of x μ
/-- the longest list that is made here -/
abbrev big : Nat := 1000000
/-- seen as data -/
def asP : Rv → Mu → Option P
  | .p d, _ => some d
  | .n ds, _ => some (.lst ds)
  | .o k, μ => match μ[k]? with
    | some (.lst xs) => some (.lst xs)
    | some (.froz xs) => some (.lst xs)
    | _ => none
  | .scr, _ => none
/-- made data for good -/
def frz : Rv → Mu → Option (P × Mu)
  | .p d, μ => some (d, μ)
  | .n ds, μ => some (.lst ds, μ)
  | .o k, μ => match μ[k]? with
    | some (.lst xs) => some (.lst xs, μ.set k (.froz xs))
    | some (.froz xs) => some (.lst xs, μ)
    | _ => none
  | .scr, _ => none
/-! ### operations on data -/
mutual
def pyOf : P → Option PyData
  | .non => some .none
  | .bl b => some (.bool b)
  | .int i => some (.int i)
  | .str s => some (.str s)
  | .tup xs => (pyOfs xs).map .tuple
  | .lst xs => (pyOfs xs).map .list
  | .exc _ => none
def pyOfs : List P → Option (List PyData)
  | [] => some []
  | x :: xs => match pyOf x, pyOfs xs with
    | some d, some ds => some (d :: ds)
    | _, _ => none
end
def scalP : P → Bool
  | .non | .bl _ | .int _ | .str _ => true
  | _ => false
/-- ==: scalars of a kind by themselves, else by the library's look at data -/
def eqP (a b : P) : Option Bool := match a, b with
  | .int i, .int j => some (decide (i = j))
  | .str i, .str j => some (decide (i = j))
  | .bl i, .bl j => some (i == j)
  | a, b => match pyOf a, pyOf b with
    | some d, some e => if SeqAt.shaped d && SeqAt.shaped e then some (PyData.eqv d e) else none
    | _, _ => none
def intsOf : List P → Option (List Int)
  | [] => some []
  | .int i :: xs => (intsOf xs).map (i :: ·)
  | _ => none
def blsOf : List P → Option (List Bool)
  | [] => some []
  | .bl i :: xs => (blsOf xs).map (i :: ·)
  | _ => none
def strsOf : List P → Option (List Str)
  | [] => some []
  | .str i :: xs => (strsOf xs).map (i :: ·)
  | _ => none
def binP (op : Operator) (a b : P) : Option Rv := match op, a, b with
  | .Add, .int i, .int j => some (.p (.int (i + j)))
  | .Add, .str i, .str j => if i.length + j.length ≤ big then some (.p (.str (i ++ j))) else none
  | .Add, .lst i, .lst j => if i.length + j.length ≤ big then some (.n (i ++ j)) else none
  | .Add, .tup i, .tup j => if i.length + j.length ≤ big then some (.p (.tup (i ++ j))) else none
  | .Sub, .int i, .int j => some (.p (.int (i - j)))
  | .Mult, .int i, .int j => if i.natAbs.log2 + j.natAbs.log2 < 1000000 then some (.p (.int (i * j))) else none
  | .Mult, .lst xs, .int k => if k.natAbs < 2 ^ 63 ∧ xs.length * k.toNat ≤ big then some (.n (List.replicate k.toNat xs).flatten) else none
  | .Mult, .tup xs, .int k => if xs ≠ [] ∧ 2 ≤ k ∧ k.natAbs ≤ 1000 ∧ xs.length ≤ 1000 then some (.p (.tup (List.replicate k.toNat xs).flatten)) else none
  | .Mod, .int i, .int j => if 0 < j then some (.p (.int (i % j))) else none
  | .FloorDiv, .int i, .int j => if 0 < j ∧ j.natAbs.log2 < 9000 then some (.p (.int (i / j))) else none
  | .Pow, .int i, .int j => if 0 ≤ j ∧ j.natAbs ≤ 1000000 ∧ i.natAbs < 2 ^ 64 then some (.p (.int (i ^ j.toNat))) else none
  | _, _, _ => none
def flatsP (xs : List P) : Bool := xs.all scalP
def inP (a : P) (b : P) : Option Bool := match b with
  | .tup xs => if scalP a && flatsP xs then (match pyOf a, pyOfs xs with
      | some d, some ds => some (ds.any fun z => PyData.eqv z d)
      | _, _ => none) else none
  | .lst xs => match pyOf a, pyOfs xs with
      | some d, some ds => if SeqAt.shaped d && SeqAt.shaped (.list ds) then some (ds.any fun z => PyData.eqv z d) else none
      | _, _ => none
  | .str z => match a with
      | .str y => match y.cps.toList with
        | [c] => some (decide (c ∈ z.cps.toList))
        | _ => none
      | _ => none
  | _ => none
def cmpP (op : CmpOp) (a b : P) : Option Bool := match op, a, b with
  | .Eq, a, b => eqP a b
  | .NotEq, a, b => (eqP a b).map (!·)
  | .Lt, .int i, .int j => some (decide (i < j))
  | .LtE, .int i, .int j => some (decide (i ≤ j))
  | .Gt, .int i, .int j => some (decide (j < i))
  | .GtE, .int i, .int j => some (decide (j ≤ i))
  | .Lt, .tup xs, .tup ys => match intsOf xs, intsOf ys with
      | some ns, some ms => some (HT.lexLt ns ms)
      | _, _ => none
  | .Is, a, .non => some (match a with | .non => true | _ => false)
  | .IsNot, a, .non => some (match a with | .non => false | _ => true)
  | .In, a, b => inP a b
  | .NotIn, a, b => (inP a b).map (!·)
  | _, _, _ => none
def idxP (a b : P) : Option P := match a, b with
  | .lst xs, .int i => L2.atI xs i
  | .tup xs, .int i => L2.atI xs i
  | .str z, .int i => if z.length ≤ big then (L2.atI z.cps.toList i).map fun c => .str ⟨#[c]⟩ else none
  | _, _ => none
def cutP (xs : List P) (lo hi : Option Int) : List P := (xs.drop (HT.sIx xs.length 0 lo)).take (HT.sIx xs.length xs.length hi - HT.sIx xs.length 0 lo)
def slcP (a : P) (lo hi : Option Int) : Option Rv := match a with
  | .lst xs => some (.n (cutP xs lo hi))
  | .tup xs => some (.p (.tup (cutP xs lo hi)))
  | .str z => if z.length ≤ big then some (.p (.str (L2.cutS z lo hi))) else none
  | _ => none
def revP (a : P) : Option Rv := match a with
  | .lst xs => some (.n xs.reverse)
  | .tup xs => if xs ≠ [] then some (.p (.tup xs.reverse)) else none
  | _ => none
/-- t[a:b:-1], a and b within the tuple -/
def slbP (a : P) (hi lo : Nat) : Option Rv := match a with
  | .tup xs => if hi < xs.length ∧ lo ≤ hi then some (.p (.tup ((xs.take (hi + 1)).drop (lo + 1)).reverse)) else none
  | _ => none
def maxL : List Int → Int
  | [] => 0
  | [x] => x
  | x :: y :: r => max x (maxL (y :: r))
def minL : List Int → Int
  | [] => 0
  | [x] => x
  | x :: y :: r => min x (minL (y :: r))
inductive Bi where
  | len | sum | max1 | min1 | max2 | min2 | all | any | abs | list | tuple | str | int | srt | sset | isi (c : Str)
  deriving Repr, DecidableEq
def seqP : P → Option (List P)
  | .lst xs => some xs
  | .tup xs => some xs
  | _ => none
/-- which own classes stand below ValueError .. are told by name; of plain data -/
def isiP (c : Str) (a : P) : Option Bool :=
  if c = ("int" : Str) then (match a with | .int _ => some true | .bl _ => some true | .exc _ => none | _ => some false)
  else if c = ("bool" : Str) then (match a with | .bl _ => some true | .exc _ => none | _ => some false)
  else if c = ("tuple" : Str) then (match a with | .tup _ => some true | .exc _ => none | _ => some false)
  else if c = ("list" : Str) then (match a with | .lst _ => some true | .exc _ => none | _ => some false)
  else none
def biP (b : Bi) (as : List P) : Option Rv := match b, as with
  | .len, [.lst xs] => some (.p (.int xs.length))
  | .len, [.tup xs] => some (.p (.int xs.length))
  | .len, [.str z] => if z.length ≤ big then some (.p (.int z.length)) else none
  | .sum, [.lst xs] => (intsOf xs).map fun ns => Rv.p (.int ns.sum)
  | .sum, [.tup xs] => (intsOf xs).map fun ns => Rv.p (.int ns.sum)
  | .max1, [.lst xs] => match intsOf xs with | some (n :: ns) => some (.p (.int (maxL (n :: ns)))) | _ => none
  | .max1, [.tup xs] => match intsOf xs with | some (n :: ns) => some (.p (.int (maxL (n :: ns)))) | _ => none
  | .min1, [.lst xs] => match intsOf xs with | some (n :: ns) => some (.p (.int (minL (n :: ns)))) | _ => none
  | .min1, [.tup xs] => match intsOf xs with | some (n :: ns) => some (.p (.int (minL (n :: ns)))) | _ => none
  | .max2, [.int i, .int j] => some (.p (.int (if j > i then j else i)))
  | .min2, [.int i, .int j] => some (.p (.int (if j < i then j else i)))
  | .all, [.lst xs] => (blsOf xs).map fun bs => Rv.p (.bl (bs.all id))
  | .any, [.lst xs] => (blsOf xs).map fun bs => Rv.p (.bl (bs.any id))
  | .abs, [.int i] => some (.p (.int (if i < 0 then -i else i)))
  | .list, [.lst xs] => some (.n xs)
  | .list, [.tup xs] => some (.n xs)
  | .tuple, [.lst xs] => some (.p (.tup xs))
  | .tuple, [.tup xs] => some (.p (.tup xs))
  | .str, [.int i] => if i.natAbs.log2 < 1920 then some (.p (.str (Str.ofString (toString i)))) else none
  | .int, [.int i] => some (.p (.int i))
  | .int, [.bl k] => some (.p (.int (if k then 1 else 0)))
  | .int, [.str a] => if a.length ≤ 640 then (intText? a).map fun n => Rv.p (.int n) else none
  | .isi c, [a] => (isiP c a).map fun b => Rv.p (.bl b)
  | _, _ => none
inductive Me where
  | split | join | endsw
  deriving Repr, DecidableEq
def meP (m : Me) (o : P) (as : List P) : Option Rv := match m, o, as with
  | .split, .str a, [.str b] => if (b.length == 0) = false ∧ a.length + 2 ≤ big then some (.n ((Txt.split a b).map .str)) else none
  | .join, .str a, [.lst xs] => match strsOf xs with
      | some ys => if (ys.map Str.length).sum + a.length * ys.length ≤ big then some (.p (.str (Txt.join a ys))) else none
      | none => none
  | .endsw, .str a, [.str b] => some (.p (.bl (Txt.endswith a b)))
  | _, _, _ => none
def truP : P → Option Bool
  | .bl b => some b
  | .non => some false
  | .int i => some (i != 0)
  | .str z => if z.length ≤ big then some (z.length != 0) else none
  | .lst xs => some (!xs.isEmpty)
  | .tup xs => some (!xs.isEmpty)
  | .exc _ => none
/-! ### the language -/
inductive E where
  | cst (d : P) | var (i : Nat) | glb (x : Str) (d : P)
  | bin (op : Operator) (a b : E) | neg (a : E) | not (a : E) | boo (isAnd : Bool) (es : List E)
  | cmp (op : CmpOp) (a b : E) | chn (op op' : CmpOp) (a b c : E) | ife (t a b : E)
  | call (f : Nat) (es : List E) | call0 (f : Nat) | bi (b : Bi) (a : E) | bi2 (b : Bi) (a a' : E) | me (m : Me) (o a : E)
  | idx (a b : E) | slc (a : E) (lo hi : Option E) | rev (a : E) | slb (a : E) (hi lo : Nat)
  | lst (es : List E) | tup (es : List E) | lrng (a b : E)
  | comp (elt : E) (tup : Bool) (tg : List Nat) (rng : Bool) (it : List E) (ifs : List E) (own : List Nat)
  | get (x : Str) (i : Int) (a : Str) (x' : Str) (i' : Int) (a' : Str) (k d : E)
  | isx (c : Str) (a : E) | lm (ix : Bool) (o a : E)
  deriving Inhabited
inductive S where
  | asg (i : Nat) (al : Bool) (e : E) | unp (is : List Nat) (e : E) | par (i j : Nat) (a b : E)
  | seti (o k e : E) | augi (op : Operator) (o k e : E) | app (o e : E) | ext (o e : E) | xpr (e : E) | ret (e : E)
  | ife (t : E) (a b : List S) | fr (tup : Bool) (tg : List Nat) (rng : Bool) (it : List E) (body : List S) | whl (t : E) (body : List S)
  | rai (n : Str) | tryA (body : List S) (c : Str) (i x : Nat) | tryO (body : List S) (c : Str) (x : Nat) (d : P)
  deriving Inhabited
/-! ### what it computes -/
/-- the calls of own defs; the script's ints; which error stands below which name -/
structure Cl where
  fn : Nat → List Rv → Mu → Out Rv
  scr : List Int
  sub : Str → Str → Option Bool
  isx : Str → Str → Option Bool
def rngP (ns : List Int) : Option (List P) := match ns with
  | [b] => if b.natAbs < 2 ^ 40 then (if 0 ≤ b then some ((List.range b.toNat).map fun k : Nat => .int k) else some []) else none
  | [a, b] => if a.natAbs < 2 ^ 40 ∧ b.natAbs < 2 ^ 40 then some ((List.range (b - a).toNat).map fun k : Nat => .int (a + k)) else none
  | [a, b, c] => if a.natAbs < 2 ^ 40 ∧ b.natAbs < 2 ^ 40 ∧ c = -1 then some ((List.range (a - b).toNat).map fun k : Nat => .int (a - k)) else none
  | _ => none
def asInt : Rv → Option Int
  | .p (.int i) => some i
  | _ => none
/-- the truth of a value as a test -/
def truR (r : Rv) (μ : Mu) (scr : List Int) : Option Bool := match r with
  | .scr => some (!scr.isEmpty)
  | r => match asP r μ with
    | some d => truP d
    | none => none
/-- a value for a callee's slot -/
def argR : Rv → Rv
  | .n ds => .p (.lst ds)
  | r => r
def wipe (ρ : Env) : List Nat → Env
  | [] => ρ
  | v :: vs => (wipe ρ vs).set v none
/-- a target of a loop or comprehension -/
def setTg (tup : Bool) (tg : List Nat) (d : P) (ρ : Env) : Option Env := match tup, tg, d with
  | false, [i], d => some (ρ.set i (some (.p d)))
  | true, is, .tup ds => if is.length = ds.length then some ((is.zip ds).foldl (fun ρ q => ρ.set q.1 (some (.p q.2))) ρ) else none
  | _, _, _ => none
/-- a walked thing's items -/
def itemsP : List P → Option (List P)
  | [.lst xs] => some xs
  | [.tup xs] => some xs
  | [.str z] => some (z.cps.toList.map fun c => .str ⟨#[c]⟩)
  | _ => none
/-- the turns of a comprehension: what is kept -/
def compL (body : P → Mu → Out (Option P)) : List P → Mu → Out (List P)
  | [], μ => .ok [] μ
  | d :: ds, μ => (body d μ).bind fun x μ1 => (compL body ds μ1).bind fun xs μ2 => .ok (match x with | some y => y :: xs | none => xs) μ2
/-! steps, by name -/
def retT (scr : List Int) (t : Bool) (r : Rv) (μ : Mu) : Out Rv := if t then Out.of ((truR r μ scr).map fun b => Rv.p (.bl b)) μ else .ok r μ
def retB (t : Bool) (r : Rv) (μ : Mu) : Out Rv := if t then (match r with | .p (.bl b) => .ok (.p (.bl b)) μ | _ => .bad) else .ok r μ
def onP (x : Rv) (μ : Mu) (f : P → Out α) : Out α := match asP x μ with
  | some d => f d
  | none => .bad
def binR (op : Operator) (x y : Rv) (μ : Mu) : Out Rv := onP x μ fun d => onP y μ fun e => Out.of (binP op d e) μ
def intR (x : Rv) (f : Int → Out α) : Out α := match x with
  | .p (.int i) => f i
  | _ => .bad
def blR (x : Rv) (f : Bool → Out α) : Out α := match x with
  | .p (.bl b) => f b
  | _ => .bad
def cmpR (op : CmpOp) (x y : Rv) (μ : Mu) (f : Bool → Out α) : Out α := onP x μ fun d => onP y μ fun e => match cmpP op d e with
  | some b => f b
  | none => .bad
def okB (b : Bool) (μ : Mu) : Out Rv := .ok (.p (.bl b)) μ
def frzO (r : Rv) (μ : Mu) : Out P := match frz r μ with
  | some (d, μ1) => .ok d μ1
  | none => .bad
def biR (scr : List Int) (b : Bi) (x : Rv) (μ : Mu) : Out Rv := match b, x with
  | .len, .scr => .ok (.p (.int scr.length)) μ
  | b, x => onP x μ fun d => Out.of (biP b [d]) μ
def bi2R (b : Bi) (x y : Rv) (μ : Mu) : Out Rv := intR x fun i => intR y fun j => Out.of (biP b [.int i, .int j]) μ
def meR (m : Me) (z : Str) (y : Rv) (μ : Mu) : Out Rv := onP y μ fun e => Out.of (meP m (.str z) [e]) μ
def strR (x : Rv) (f : Str → Out α) : Out α := match x with
  | .p (.str z) => f z
  | _ => .bad
def idxR (scr : List Int) (x y : Rv) (μ : Mu) : Out Rv := match x with
  | .scr => intR y fun i => Out.of ((L2.atI scr i).map fun n => Rv.p (.int n)) μ
  | x => onP x μ fun d => onP y μ fun e => Out.of ((idxP d e).map Rv.p) μ
def lstR (ds : List P) (μ : Mu) : Out Rv := if ds.length ≤ big then .ok (.n ds) μ else .bad
def tupR (ds : List P) (μ : Mu) : Out Rv := if ds.length ≤ big then .ok (.p (.tup ds)) μ else .bad
def getR (i : Int) (a : Str) (i' : Int) (a' : Str) (x y : Rv) (μ : Mu) : Out Rv := intR x fun j => match y with
  | .p d => if i' = j then .ok (.p (.str a')) μ else if i = j then .ok (.p (.str a)) μ else .ok (.p d) μ
  | _ => .bad
def tgR (tup : Bool) (tg : List Nat) (d : P) (ρ : Env) (f : Env → Out α) : Out α := match setTg tup tg d ρ with
  | some ρ1 => f ρ1
  | none => .bad
def lenR (ds : List P) (f : Out α) : Out α := if ds.length ≤ big then f else .bad
def seqR (d : P) (f : List P → Out α) : Out α := match d with
  | .lst xs => f xs
  | _ => .bad
/-- isinstance(error, class) -/
def isxR (isx : Str → Str → Option Bool) (c : Str) (x : Rv) (μ : Mu) : Out Rv := match x with
  | .p (.exc n) => match isx n c with
    | some b => okB b μ
    | none => .bad
  | _ => .bad
/-- list.count, list.index -/
def lmP (ix : Bool) (o a : P) : Option Rv := match o with
  | .lst xs => match pyOf a, pyOfs xs with
    | some d, some ds => if SeqAt.shaped d && SeqAt.shaped (.list ds) then (if ix then (ds.findIdx? fun z => PyData.eqv z d).map fun j => Rv.p (.int (j : Nat)) else some (.p (.int ((ds.countP fun z => PyData.eqv z d : Nat) : Int)))) else none
    | _, _ => none
  | _ => none
mutual
def evE (cl : Cl) : E → Bool → Env → Mu → Out Rv
  | .cst d, t, _, μ => retT cl.scr t (.p d) μ
  | .var i, t, ρ, μ => match ρ[i]? with
    | some (some r) => retT cl.scr t r μ
    | _ => .bad
  | .glb _ d, t, _, μ => if t then .bad else .ok (.p d) μ
  | .bin op a b, t, ρ, μ => if t then .bad else (evE cl a false ρ μ).bind fun x μ1 => (evE cl b false ρ μ1).bind fun y μ2 => binR op x y μ2
  | .neg a, t, ρ, μ => if t then .bad else (evE cl a false ρ μ).bind fun x μ1 => intR x fun i => .ok (.p (.int (-i))) μ1
  | .not a, t, ρ, μ => (evE cl a t ρ μ).bind fun x μ1 => blR x fun b => okB (!b) μ1
  | .boo isAnd es, t, ρ, μ => evB cl isAnd es t ρ μ
  | .cmp op a b, _, ρ, μ => (evE cl a false ρ μ).bind fun x μ1 => (evE cl b false ρ μ1).bind fun y μ2 => cmpR op x y μ2 fun k => okB k μ2
  | .chn op op' a b c, _, ρ, μ => (evE cl a false ρ μ).bind fun x μ1 => (evE cl b false ρ μ1).bind fun y μ2 => cmpR op x y μ2 fun k =>
      if k then (evE cl c false ρ μ2).bind fun z μ3 => cmpR op' y z μ3 fun k' => okB k' μ3 else okB false μ2
  | .ife c a b, t, ρ, μ => if t then .bad else (evE cl c true ρ μ).bind fun x μ1 => blR x fun k => if k then evE cl a false ρ μ1 else evE cl b false ρ μ1
  | .call f es, t, ρ, μ => (evAs cl es ρ μ).bind fun rs μ1 => (cl.fn f rs μ1).bind fun r μ2 => retT cl.scr t r μ2
  | .call0 f, t, ρ, μ => ((cl.fn f [] μ).noexc).bind fun r μ2 => retT cl.scr t r μ2
  | .bi b a, t, ρ, μ => (evE cl a false ρ μ).bind fun x μ1 => (biR cl.scr b x μ1).bind fun r μ2 => retB t r μ2
  | .bi2 b a a', t, ρ, μ => if t then .bad else (evE cl a false ρ μ).bind fun x μ1 => (evE cl a' false ρ μ1).bind fun y μ2 => bi2R b x y μ2
  | .me m o a, t, ρ, μ => (evE cl o false ρ μ).bind fun x μ1 => strR x fun z => (evE cl a false ρ μ1).bind fun y μ2 => (meR m z y μ2).bind fun r μ3 => retB t r μ3
  | .idx a b, t, ρ, μ => (evE cl a false ρ μ).bind fun x μ1 => (evE cl b false ρ μ1).bind fun y μ2 => (idxR cl.scr x y μ2).bind fun r μ3 => retB t r μ3
  | .slc a lo hi, t, ρ, μ => if t then .bad else (evE cl a false ρ μ).bind fun x μ1 => (evO cl lo ρ μ1).bind fun l μ2 => (evO cl hi ρ μ2).bind fun h μ3 => onP x μ3 fun d => Out.of (slcP d l h) μ3
  | .rev a, t, ρ, μ => if t then .bad else (evE cl a false ρ μ).bind fun x μ1 => onP x μ1 fun d => Out.of (revP d) μ1
  | .slb a hi lo, t, ρ, μ => if t then .bad else (evE cl a false ρ μ).bind fun x μ1 => onP x μ1 fun d => Out.of (slbP d hi lo) μ1
  | .lst es, t, ρ, μ => if t then .bad else (evFs cl es ρ μ).bind fun ds μ2 => lstR ds μ2
  | .tup es, t, ρ, μ => if t then .bad else (evFs cl es ρ μ).bind fun ds μ2 => tupR ds μ2
  | .lrng a b, t, ρ, μ => if t then .bad else (evE cl a false ρ μ).bind fun x μ1 => (evE cl b false ρ μ1).bind fun y μ2 => intR x fun i => intR y fun j => (Out.of (rngP [i, j]) μ2).bind fun ds μ2 => lstR ds μ2
  | .comp elt tup tg rng it ifs own, t, ρ, μ => if t then .bad else
      (if rng then (evIs cl it ρ μ).bind fun ns μ1 => Out.of (rngP ns) μ1 else (evFs cl it ρ μ).bind fun ds μ1 => Out.of (itemsP ds) μ1).bind fun ds μ2 =>
        lenR ds (((compL (fun d μ => tgR tup tg d (wipe ρ own) fun ρ' => (evIf cl ifs ρ' μ).bind fun b μ1 =>
          if b then (evE cl elt false ρ' μ1).bind fun r μ2 => (frzO r μ2).bind fun y μ3 => .ok (some y) μ3 else .ok none μ1) ds μ2).noexc).bind fun xs μ3 => .ok (.p (.lst xs)) μ3)
  | .get _ i a _ i' a' k d, t, ρ, μ => if t then .bad else (evE cl k false ρ μ).bind fun x μ1 => (evE cl d false ρ μ1).bind fun y μ2 => getR i a i' a' x y μ2
  | .isx c a, t, ρ, μ => (evE cl a false ρ μ).bind fun x μ1 => (isxR cl.isx c x μ1).bind fun r μ2 => retB t r μ2
  | .lm ix o a, t, ρ, μ => if t then .bad else (evE cl o false ρ μ).bind fun x μ1 => onP x μ1 fun d => seqR d fun _ => (evE cl a false ρ μ1).bind fun y μ2 => onP x μ2 fun d' => onP y μ2 fun e => Out.of (lmP ix d' e) μ2
/-- arguments of an own def -/
def evAs (cl : Cl) : List E → Env → Mu → Out (List Rv)
  | [], _, μ => .ok [] μ
  | e :: es, ρ, μ => (evE cl e false ρ μ).bind fun r μ1 => (evAs cl es ρ μ1).bind fun rs μ2 => .ok (argR r :: rs) μ2
/-- a display's items -/
def evFs (cl : Cl) : List E → Env → Mu → Out (List P)
  | [], _, μ => .ok [] μ
  | e :: es, ρ, μ => (evE cl e false ρ μ).bind fun r μ1 => (frzO r μ1).bind fun d μ2 => (evFs cl es ρ μ2).bind fun ds μ3 => .ok (d :: ds) μ3
/-- a range's ints -/
def evIs (cl : Cl) : List E → Env → Mu → Out (List Int)
  | [], _, μ => .ok [] μ
  | e :: es, ρ, μ => (evE cl e false ρ μ).bind fun r μ1 => intR r fun i => (evIs cl es ρ μ1).bind fun is μ2 => .ok (i :: is) μ2
def evB (cl : Cl) (isAnd : Bool) : List E → Bool → Env → Mu → Out Rv
  | [], _, _, _ => .bad
  | [e], t, ρ, μ => evE cl e t ρ μ
  | e :: e' :: es, t, ρ, μ => (evE cl e t ρ μ).bind fun x μ1 => blR x fun b => if b = isAnd then evB cl isAnd (e' :: es) t ρ μ1 else okB b μ1
def evO (cl : Cl) : Option E → Env → Mu → Out (Option Int)
  | none, _, μ => .ok none μ
  | some e, ρ, μ => (evE cl e false ρ μ).bind fun x μ1 => intR x fun i => .ok (some i) μ1
def evIf (cl : Cl) : List E → Env → Mu → Out Bool
  | [], _, μ => .ok true μ
  | [c], ρ, μ => (evE cl c true ρ μ).bind fun x μ1 => blR x fun b => .ok b μ1
  | _ :: _ :: _, _, _ => .bad
end
inductive Fl where
  | nx (ρ : Env) | rt (r : Rv)
  deriving Repr
/-- a value for a slot: al: a new list becomes a thing of the store -/
def stoR (al : Bool) (r : Rv) (μ : Mu) : Rv × Mu := match r, al with
  | .n ds, true => (.o μ.length, μ ++ [.lst ds])
  | .n ds, false => (.p (.lst ds), μ)
  | r, _ => (r, μ)
/-- goes on behind a statement -/
def thenF (f : Fl) (μ : Mu) (k : Env → Out Fl) : Out Fl := match f with
  | .nx ρ => k ρ
  | .rt r => .ok (.rt r) μ
def forL (body : P → Env → Mu → Out Fl) : List P → Env → Mu → Out Fl
  | [], ρ, μ => .ok (.nx ρ) μ
  | d :: ds, ρ, μ => (body d ρ μ).bind fun f μ1 => thenF f μ1 fun ρ1 => forL body ds ρ1 μ1
def whlL (test : Env → Mu → Out Rv) (body : Env → Mu → Out Fl) : Nat → Env → Mu → Out Fl
  | 0, _, _ => .bad
  | n + 1, ρ, μ => (test ρ μ).bind fun x μ1 => blR x fun b => if b then (body ρ μ1).bind fun f μ2 => thenF f μ2 fun ρ1 => whlL test body n ρ1 μ2 else .ok (.nx ρ) μ1
/-- more turns than any while here takes -/
def fuel : Nat := 2 ^ 4096
/-- the list of the store at x -/
def objR (x : Rv) (μ : Mu) (f : Nat → List P → Out α) : Out α := match x with
  | .o n => match μ[n]? with
    | some (.lst xs) => f n xs
    | _ => .bad
  | _ => .bad
def dataR (x : Rv) (f : P → Out α) : Out α := match x with
  | .p d => f d
  | _ => .bad
def ixR (xs : List P) (i : Int) (f : Nat → Out α) : Out α := match L2.ixN xs.length i with
  | some j => f j
  | none => .bad
def setiR (v x i : Rv) (ρ : Env) (μ : Mu) : Out Fl := dataR v fun d => objR x μ fun n xs => intR i fun z => ixR xs z fun j => .ok (.nx ρ) (μ.set n (.lst (xs.set j d)))
def appR (x : Rv) (d : P) (ρ : Env) (μ : Mu) : Out Fl := objR x μ fun n xs => if xs.length < big then .ok (.nx ρ) (μ.set n (.lst (xs ++ [d]))) else .bad
def extR (x r : Rv) (ρ : Env) (μ : Mu) : Out Fl := onP r μ fun d => seqR d fun ys => objR x μ fun n xs => if xs.length + ys.length ≤ big then .ok (.nx ρ) (μ.set n (.lst (xs ++ ys))) else .bad
/-- o[k] op= e: the value read, what is put back -/
def augR1 (x i : Rv) (μ : Mu) (f : Nat → Int → Int → Out α) : Out α := objR x μ fun n xs => intR i fun z => ixR xs z fun j => match xs[j]? with
  | some (.int a) => f n z a
  | _ => .bad
def augO (op : Operator) (a b : Int) : Option Int := match op with
  | .Add => some (a + b)
  | .Sub => some (a - b)
  | _ => none
def augR2 (op : Operator) (n : Nat) (z a : Int) (v : Rv) (ρ : Env) (μ : Mu) : Out Fl := intR v fun b => objR (.o n) μ fun _ ys => ixR ys z fun j => (Out.of (augO op a b) μ).bind fun c _ => .ok (.nx ρ) (μ.set n (.lst (ys.set j (.int c))))
mutual
def evS (cl : Cl) : S → Env → Mu → Out Fl
  | .asg i al e, ρ, μ => (evE cl e false ρ μ).bind fun r μ1 => .ok (.nx (ρ.set i (some (stoR al r μ1).1))) (stoR al r μ1).2
  | .unp is e, ρ, μ => (evE cl e false ρ μ).bind fun r μ1 => dataR r fun d => tgR true is d ρ fun ρ1 => .ok (.nx ρ1) μ1
  | .par i j a b, ρ, μ => (evE cl a false ρ μ).bind fun x μ1 => (evE cl b false ρ μ1).bind fun y μ2 => dataR x fun d => dataR y fun e => .ok (.nx ((ρ.set i (some (.p d))).set j (some (.p e)))) μ2
  | .seti o k e, ρ, μ => (evE cl e false ρ μ).bind fun v μ1 => (evE cl o false ρ μ1).bind fun x μ2 => (evE cl k false ρ μ2).bind fun i μ3 => setiR v x i ρ μ3
  | .augi op o k e, ρ, μ => (evE cl o false ρ μ).bind fun x μ1 => (evE cl k false ρ μ1).bind fun i μ2 => augR1 x i μ2 fun n z a => (evE cl e false ρ μ2).bind fun v μ3 => augR2 op n z a v ρ μ3
  | .app o e, ρ, μ => (evE cl o false ρ μ).bind fun x μ1 => objR x μ1 fun _ _ => (evE cl e false ρ μ1).bind fun r μ2 => (frzO r μ2).bind fun d μ3 => appR x d ρ μ3
  | .ext o e, ρ, μ => (evE cl o false ρ μ).bind fun x μ1 => objR x μ1 fun _ _ => (evE cl e false ρ μ1).bind fun r μ2 => extR x r ρ μ2
  | .xpr e, ρ, μ => (evE cl e false ρ μ).bind fun _ μ1 => .ok (.nx ρ) μ1
  | .ret e, ρ, μ => (evE cl e false ρ μ).bind fun r μ1 => .ok (.rt r) μ1
  | .ife c a b, ρ, μ => (evE cl c true ρ μ).bind fun x μ1 => blR x fun k => if k then evSs cl a ρ μ1 else evSs cl b ρ μ1
  | .fr tup tg rng it body, ρ, μ => (if rng then (evIs cl it ρ μ).bind fun ns μ1 => Out.of (rngP ns) μ1 else (evFs cl it ρ μ).bind fun ds μ1 => Out.of (itemsP ds) μ1).bind fun ds μ2 =>
      forL (fun d ρ μ => tgR tup tg d ρ fun ρ1 => evSs cl body ρ1 μ) ds ρ μ2
  | .whl c body, ρ, μ => whlL (fun ρ μ => evE cl c true ρ μ) (fun ρ μ => evSs cl body ρ μ) fuel ρ μ
  | .rai n, _, μ => .exc n μ
  | .tryA body c i x, ρ, μ => match evSs cl body ρ μ with
    | .exc n μ1 => match cl.sub n c with
      | some true => .ok (.nx ((ρ.set x (some (.p (.exc n)))).set i none)) μ1
      | _ => .bad
    | r => r
  | .tryO body c x d, ρ, μ => match evSs cl body ρ μ with
    | .exc n μ1 => match cl.sub n c with
      | some true => .ok (.nx (ρ.set x (some (.p d)))) μ1
      | some false => .exc n μ1
      | none => .bad
    | r => r
def evSs (cl : Cl) : List S → Env → Mu → Out Fl
  | [], ρ, μ => .ok (.nx ρ) μ
  | s :: ss, ρ, μ => (evS cl s ρ μ).bind fun f μ1 => thenF f μ1 fun ρ1 => evSs cl ss ρ1 μ1
end
/-- what a call leaves: the def's own things are gone from the store -/
def popR (r : Rv) (μ : Mu) (k : Nat) : Out Rv := match r with
  | .o j => if j < k then .ok (.o j) (μ.take k) else match μ[j]? with
    | some (.lst xs) => .ok (.n xs) (μ.take k)
    | some (.froz xs) => .ok (.p (.lst xs)) (μ.take k)
    | _ => .bad
  | r => .ok r (μ.take k)
structure Fn where
  ps : Nat
  n : Nat
  body : List S
def evFn (cl : Cl) (f : Fn) (args : List Rv) (μ : Mu) : Out Rv :=
  if args.length = f.ps then
    match evSs cl f.body (args.map some ++ List.replicate (f.n - f.ps) none) μ with
    | .ok (.nx _) μ1 => popR (.p .non) μ1 μ.length
    | .ok (.rt r) μ1 => popR r μ1 μ.length
    | .exc n μ1 => .exc n (μ1.take μ.length)
    | .bad => .bad
  else .bad
end R
namespace R
open PySem
/-- which error stands below which name: raised, asked for -/
def subN (raised asked : List Str) (n c : Str) : Option Bool := if raised.contains n && asked.contains c then some (n == c || c == ("RaceError" : Str) || c == ("ValueError" : Str)) else none
/-- the table's calls, so deep -/
def mkCl (tbl : List Fn) (raised asked isas : List Str) (scr : List Int) : Nat → Cl
  | 0 => ⟨fun _ _ _ => .bad, scr, subN raised asked, subN raised isas⟩
  | d + 1 => ⟨fun i args μ => match tbl[i]? with
      | some f => evFn (mkCl tbl raised asked isas scr d) f args μ
      | none => .bad, scr, subN raised asked, subN raised isas⟩
end R

set_option Elab.async false
set_option linter.all false
set_option maxRecDepth 100000
/-! # R2: what the IR's data are in a heap; worlds -/
namespace R
open PySem L2
/-- what stays through a whole law -/
structure Gx where
  prog : Program
  wd : World
  K : PySem.W.Frag
  mg : Str → Option Value
  base : Heap
/-- an error object, caught and kept -/
def ExcHO (C a : Addr) : HO := .ext fun h => ∃ (oe : Obj) (vs : Array Value), h.get? a = some oe ∧ Zc (.ref C) none oe ∧ oe.data = .fields vs
mutual
/-- v is the data d in the heap H -/
def Rep (g : Gx) (H : Hp) : P → V → Prop
  | .non, v => v = .non
  | .bl b, v => v = .bl b
  | .int i, v => v = .int i
  | .str s, v => v = .str s
  | .tup ds, v => ∃ p vs, v = .ref p ∧ H p = some (.tup vs) ∧ Reps g H ds vs
  | .lst ds, v => ∃ p vs, v = .ref p ∧ H p = some (.lst vs) ∧ Reps g H ds vs
  | .exc n, v => ∃ p C, v = .ref p ∧ g.mg n = some (.ref C) ∧ H p = some (ExcHO C p)
def Reps (g : Gx) (H : Hp) : List P → List V → Prop
  | [], vs => vs = []
  | d :: ds, vs => ∃ v r, vs = v :: r ∧ Rep g H d v ∧ Reps g H ds r
end
/-- what stood stands -/
def Ex (H H' : Hp) : Prop := ∀ a o, H a = some o → H' a = some o
theorem Ex.refl (H : Hp) : Ex H H := fun _ _ h => h
theorem Ex.trans {H H1 H2 : Hp} (a : Ex H H1) (b : Ex H1 H2) : Ex H H2 := fun x o h => b x o (a x o h)
theorem Ex.new {H : Hp} {p : Addr} {o : HO} (h : H p = none) : Ex H (upd H p o) := fun a u e => by
  rw [upd_ne (ne_of_none e h)]
  exact e
section
variable {g : Gx} {H H' : Hp}
mutual
theorem Rep.mono (e : Ex H H') : ∀ (d : P) (v : V), Rep g H d v → Rep g H' d v
  | .non, _, h => h
  | .bl _, _, h => h
  | .int _, _, h => h
  | .str _, _, h => h
  | .tup ds, v, h => by
    obtain ⟨p, vs, rfl, hp, hr⟩ := h
    exact ⟨p, vs, rfl, e p _ hp, Reps.mono e ds vs hr⟩
  | .lst ds, v, h => by
    obtain ⟨p, vs, rfl, hp, hr⟩ := h
    exact ⟨p, vs, rfl, e p _ hp, Reps.mono e ds vs hr⟩
  | .exc n, v, h => by
    obtain ⟨p, C, rfl, hm, hp⟩ := h
    exact ⟨p, C, rfl, hm, e p _ hp⟩
theorem Reps.mono (e : Ex H H') : ∀ (ds : List P) (vs : List V), Reps g H ds vs → Reps g H' ds vs
  | [], _, h => h
  | d :: ds, vs, h => by
    obtain ⟨v, r, rfl, h1, h2⟩ := h
    exact ⟨v, r, rfl, Rep.mono e d v h1, Reps.mono e ds r h2⟩
end
theorem Reps.length : ∀ {ds : List P} {vs : List V}, Reps g H ds vs → vs.length = ds.length
  | [], _, h => by rw [h]; rfl
  | d :: ds, vs, h => by
    obtain ⟨v, r, rfl, _, h2⟩ := h
    rw [List.length_cons, List.length_cons, Reps.length h2]
theorem Reps.get : ∀ {ds : List P} {vs : List V} {i : Nat} {d : P}, Reps g H ds vs → ds[i]? = some d → ∃ v, vs[i]? = some v ∧ Rep g H d v
  | [], _, _, _, _, e => by simp at e
  | _ :: _, _, 0, d, h, e => by
    obtain ⟨v, r, rfl, h1, _⟩ := h
    simp at e
    subst e
    exact ⟨v, rfl, h1⟩
  | _ :: _, _, i + 1, d, h, e => by
    obtain ⟨v, r, rfl, _, h2⟩ := h
    obtain ⟨w, e1, h3⟩ := Reps.get h2 (i := i) (d := d) (by simpa using e)
    exact ⟨w, by simpa using e1, h3⟩
theorem Reps.append : ∀ {ds es : List P} {vs us : List V}, Reps g H ds vs → Reps g H es us → Reps g H (ds ++ es) (vs ++ us)
  | [], _, _, _, h, k => by
    have h' : _ = [] := h
    subst h'
    exact k
  | d :: ds, es, vs, us, h, k => by
    obtain ⟨v, r, rfl, h1, h2⟩ := h
    exact ⟨v, r ++ us, rfl, h1, Reps.append h2 k⟩
theorem Reps.drop : ∀ {ds : List P} {vs : List V} (n : Nat), Reps g H ds vs → Reps g H (ds.drop n) (vs.drop n)
  | _, _, 0, h => h
  | [], _, n + 1, h => by
    have h' : _ = [] := h
    subst h'
    exact rfl
  | d :: ds, vs, n + 1, h => by
    obtain ⟨v, r, rfl, _, h2⟩ := h
    exact Reps.drop n h2
theorem Reps.take : ∀ {ds : List P} {vs : List V} (n : Nat), Reps g H ds vs → Reps g H (ds.take n) (vs.take n)
  | _, _, 0, _ => rfl
  | [], _, n + 1, h => by
    have h' : _ = [] := h
    subst h'
    exact rfl
  | d :: ds, vs, n + 1, h => by
    obtain ⟨v, r, rfl, h1, h2⟩ := h
    exact ⟨v, r.take n, rfl, h1, Reps.take n h2⟩
theorem Reps.set : ∀ {ds : List P} {vs : List V} {d : P} {v : V} (n : Nat), Reps g H ds vs → Rep g H d v → Reps g H (ds.set n d) (vs.set n v)
  | [], _, _, _, n, h, _ => by
    have h' : _ = [] := h
    subst h'
    exact rfl
  | _ :: _, _, _, _, 0, h, k => by
    obtain ⟨v, r, rfl, _, h2⟩ := h
    exact ⟨_, r, rfl, k, h2⟩
  | _ :: _, _, _, _, n + 1, h, k => by
    obtain ⟨v, r, rfl, h1, h2⟩ := h
    exact ⟨v, _, rfl, h1, Reps.set n h2 k⟩
theorem Reps.one {d : P} {v : V} (h : Rep g H d v) : Reps g H [d] [v] := ⟨v, [], rfl, h, rfl⟩
theorem Reps.reverse : ∀ {ds : List P} {vs : List V}, Reps g H ds vs → Reps g H ds.reverse vs.reverse
  | [], _, h => by
    have h' : _ = [] := h
    subst h'
    exact rfl
  | d :: ds, vs, h => by
    obtain ⟨v, r, rfl, h1, h2⟩ := h
    rw [List.reverse_cons, List.reverse_cons]
    exact (Reps.reverse h2).append (Reps.one h1)
theorem Reps.rep {ds : List P} {vs : List V} (h : Reps g H ds vs) : ∀ n : Nat, Reps g H (List.replicate n ds).flatten (List.replicate n vs).flatten
  | 0 => rfl
  | n + 1 => by
    rw [List.replicate_succ, List.replicate_succ, List.flatten_cons, List.flatten_cons]
    exact h.append (Reps.rep h n)
theorem Reps.ints : ∀ {ds : List P} {vs : List V} {ns : List Int}, Reps g H ds vs → intsOf ds = some ns → vs = ns.map V.int
  | [], _, _, h, e => by
    have h' : _ = [] := h
    subst h'
    cases e
    rfl
  | d :: ds, vs, ns, h, e => by
    obtain ⟨v, r, rfl, h1, h2⟩ := h
    cases d <;> simp only [intsOf] at e <;> try (cases e; done)
    rename_i i
    cases q : intsOf ds with
    | none => rw [q] at e; cases e
    | some ms =>
      rw [q] at e
      cases e
      have h1' : v = V.int i := h1
      rw [h1', Reps.ints h2 q]
      rfl
theorem Reps.bls : ∀ {ds : List P} {vs : List V} {ns : List Bool}, Reps g H ds vs → blsOf ds = some ns → vs = ns.map V.bl
  | [], _, _, h, e => by
    have h' : _ = [] := h
    subst h'
    cases e
    rfl
  | d :: ds, vs, ns, h, e => by
    obtain ⟨v, r, rfl, h1, h2⟩ := h
    cases d <;> simp only [blsOf] at e <;> try (cases e; done)
    rename_i i
    cases q : blsOf ds with
    | none => rw [q] at e; cases e
    | some ms =>
      rw [q] at e
      cases e
      have h1' : v = V.bl i := h1
      rw [h1', Reps.bls h2 q]
      rfl
theorem Reps.strs : ∀ {ds : List P} {vs : List V} {ns : List Str}, Reps g H ds vs → strsOf ds = some ns → vs = ns.map V.str
  | [], _, _, h, e => by
    have h' : _ = [] := h
    subst h'
    cases e
    rfl
  | d :: ds, vs, ns, h, e => by
    obtain ⟨v, r, rfl, h1, h2⟩ := h
    cases d <;> simp only [strsOf] at e <;> try (cases e; done)
    rename_i i
    cases q : strsOf ds with
    | none => rw [q] at e; cases e
    | some ms =>
      rw [q] at e
      cases e
      have h1' : v = V.str i := h1
      rw [h1', Reps.strs h2 q]
      rfl
theorem Reps.of_ints : ∀ ns : List Int, Reps g H (ns.map .int) (ns.map V.int)
  | [] => rfl
  | n :: ns => ⟨_, _, rfl, rfl, Reps.of_ints ns⟩
theorem Reps.of_strs : ∀ ns : List Str, Reps g H (ns.map .str) (ns.map V.str)
  | [] => rfl
  | n :: ns => ⟨_, _, rfl, rfl, Reps.of_strs ns⟩
mutual
theorem Rep.dp (K : PySem.W.Frag) : ∀ (d : P) (v : V) (e : PyData), Rep g H d v → pyOf d = some e → Dp K H v e
  | .non, v, e, h, q => by
    have h' : v = .non := h
    simp only [pyOf] at q
    cases q
    rw [h']
    exact .non
  | .bl b, v, e, h, q => by
    have h' : v = .bl b := h
    simp only [pyOf] at q
    cases q
    rw [h']
    exact .bl b
  | .int i, v, e, h, q => by
    have h' : v = .int i := h
    simp only [pyOf] at q
    cases q
    rw [h']
    exact .int i
  | .str s, v, e, h, q => by
    have h' : v = .str s := h
    simp only [pyOf] at q
    cases q
    rw [h']
    exact .str s
  | .tup ds, v, e, h, q => by
    obtain ⟨p, vs, rfl, hp, hr⟩ := h
    simp only [pyOf] at q
    cases z : pyOfs ds with
    | none => rw [z] at q; cases q
    | some es =>
      rw [z] at q
      cases q
      exact .tup (SqT.of hp) (Reps.dp K ds vs es hr z)
  | .lst ds, v, e, h, q => by
    obtain ⟨p, vs, rfl, hp, hr⟩ := h
    simp only [pyOf] at q
    cases z : pyOfs ds with
    | none => rw [z] at q; cases q
    | some es =>
      rw [z] at q
      cases q
      exact .lst (SqL.of hp) (Reps.dp K ds vs es hr z)
  | .exc n, v, e, h, q => by
    simp only [pyOf] at q
    cases q
theorem Reps.dp (K : PySem.W.Frag) : ∀ (ds : List P) (vs : List V) (es : List PyData), Reps g H ds vs → pyOfs ds = some es → DpAll K H vs es
  | [], vs, es, h, q => by
    have h' : vs = [] := h
    simp only [pyOfs] at q
    cases q
    rw [h']
    exact .nil
  | d :: ds, vs, es, h, q => by
    obtain ⟨v, r, rfl, h1, h2⟩ := h
    simp only [pyOfs] at q
    cases z : pyOf d with
    | none => rw [z] at q; cases q
    | some e =>
      cases z2 : pyOfs ds with
      | none => rw [z, z2] at q; cases q
      | some es' =>
        rw [z, z2] at q
        cases q
        exact .cons (Rep.dp K d v e h1 z) (Reps.dp K ds r es' h2 z2)
end
end

/-! ### worlds: the addresses of the store's things, the heap that stays, the heap -/
structure Wd where
  ι : List Addr
  Hb : Hp
  H : Hp
  pr : List Addr
def MRep (g : Gx) (w : Wd) (a : Addr) : MO → Prop
  | .lst ds => w.Hb a = none ∧ ∃ vs, w.H a = some (.lst vs) ∧ Reps g w.Hb ds vs
  | .froz ds => ∃ vs, w.Hb a = some (.lst vs) ∧ Reps g w.Hb ds vs
structure OkM (g : Gx) (μ : Mu) (w : Wd) : Prop where
  sub : Ex w.Hb w.H
  len : w.ι.length = μ.length
  nd : w.ι.Nodup
  at_ : ∀ (k : Nat) (m : MO), μ[k]? = some m → ∃ a, w.ι[k]? = some a ∧ MRep g w a m
  pr : ∀ a ∈ w.pr, w.Hb a = none ∧ a ∉ w.ι ∧ ∃ vs, w.H a = some (.lst vs)
structure Grow (w w' : Wd) : Prop where
  hb : Ex w.Hb w'.Hb
  io : w.ι <+: w'.ι
  keep : ∀ a o, w.H a = some o → a ∉ w.ι → w'.H a = some o
  new : ∀ a, a ∈ w'.ι → a ∈ w.ι ∨ w.H a = none
  mon : ∀ a, w'.H a = none → w.H a = none
  pr : w'.pr = w.pr
theorem Grow.refl (w : Wd) : Grow w w := ⟨Ex.refl _, List.prefix_refl _, fun _ _ h _ => h, fun _ h => .inl h, fun _ h => h, rfl⟩
theorem Grow.trans {w w1 w2 : Wd} (a : Grow w w1) (b : Grow w1 w2) : Grow w w2 where
  hb := a.hb.trans b.hb
  io := a.io.trans b.io
  keep := fun x o h n => b.keep x o (a.keep x o h n) fun m => (a.new x m).elim n fun e => by rw [e] at h; cases h
  new := fun x h => (b.new x h).elim (a.new x) fun e => .inr (a.mon x e)
  mon := fun x h => a.mon x (b.mon x h)
  pr := b.pr.trans a.pr
/-- a value of an expression, just come -/
def RRep (g : Gx) (scr : List Int) (w : Wd) : Rv → V → Prop
  | .p d, v => Rep g w.Hb d v
  | .o k, v => ∃ a, w.ι[k]? = some a ∧ v = .ref a
  | .n ds, v => ∃ p vs, v = .ref p ∧ w.H p = some (.lst vs) ∧ w.Hb p = none ∧ p ∉ w.ι ∧ p ∉ w.pr ∧ Reps g w.Hb ds vs
  | .scr, v => ∃ a, v = .ref a ∧ SqL g.K w.Hb a (scr.map V.int)
/-- the same, later -/
def RPer (g : Gx) (scr : List Int) (w : Wd) : Rv → V → Prop
  | .p d, v => Rep g w.Hb d v
  | .o k, v => ∃ a, w.ι[k]? = some a ∧ v = .ref a
  | .n ds, v => ∃ p vs, v = .ref p ∧ w.H p = some (.lst vs) ∧ p ∉ w.ι ∧ Reps g w.Hb ds vs
  | .scr, v => ∃ a, v = .ref a ∧ SqL g.K w.Hb a (scr.map V.int)
def notN : Rv → Prop
  | .n _ => False
  | _ => True
/-- a new list was not there before -/
def Fresh (w : Wd) : Rv → V → Prop
  | .n _, v => ∀ p, v = .ref p → w.H p = none
  | _, _ => True
section
variable {g : Gx} {scr : List Int} {w w' : Wd} {μ : Mu} {r : Rv} {v : V}
theorem RRep.per (h : RRep g scr w r v) : RPer g scr w r v := by
  cases r with
  | p d => exact h
  | o k => exact h
  | n ds =>
    obtain ⟨p, vs, e, h1, h2, h3, _, h4⟩ := h
    exact ⟨p, vs, e, h1, h3, h4⟩
  | scr => exact h
theorem pre_get {l l' : List Addr} {k : Nat} {a : Addr} (h : l <+: l') (e : l[k]? = some a) : l'[k]? = some a := by
  obtain ⟨t, rfl⟩ := h
  rw [List.getElem?_append_left (List.getElem?_eq_some_iff.mp e).1]
  exact e
theorem RPer.grow (gr : Grow w w') (h : RPer g scr w r v) : RPer g scr w' r v := by
  cases r with
  | p d => exact Rep.mono gr.hb d v h
  | o k =>
    obtain ⟨a, e, rfl⟩ := h
    exact ⟨a, pre_get gr.io e, rfl⟩
  | n ds =>
    obtain ⟨p, vs, rfl, h1, h3, h4⟩ := h
    exact ⟨p, vs, rfl, gr.keep p _ h1 h3, (fun m => (gr.new p m).elim h3 fun e => by rw [e] at h1; cases h1), Reps.mono gr.hb _ _ h4⟩
  | scr =>
    obtain ⟨a, rfl, h⟩ := h
    exact ⟨a, rfl, Evl.ex_l gr.hb h⟩
theorem RPer.rep (hm : OkM g μ w) (n : notN r) (h : RPer g scr w r v) : RRep g scr w r v := by
  cases r with
  | p d => exact h
  | o k => exact h
  | n ds => exact n.elim
  | scr => exact h
/-- seen as data: the thing itself in the heap, what it holds in the heap that stays -/
def TRep (g : Gx) (w : Wd) : P → V → Prop
  | .tup ds, v => ∃ p vs, v = .ref p ∧ w.H p = some (.tup vs) ∧ Reps g w.Hb ds vs
  | .lst ds, v => ∃ p vs, v = .ref p ∧ w.H p = some (.lst vs) ∧ Reps g w.Hb ds vs
  | d, v => Rep g w.Hb d v
theorem TRep.of (hm : OkM g μ w) {d : P} (h : Rep g w.Hb d v) : TRep g w d v := by
  cases d with
  | tup ds =>
    obtain ⟨p, vs, e, h1, h2⟩ := h
    exact ⟨p, vs, e, hm.sub _ _ h1, h2⟩
  | lst ds =>
    obtain ⟨p, vs, e, h1, h2⟩ := h
    exact ⟨p, vs, e, hm.sub _ _ h1, h2⟩
  | _ => exact h
theorem TRep.H (hm : OkM g μ w) {d : P} (h : TRep g w d v) : Rep g w.H d v := by
  cases d with
  | tup ds =>
    obtain ⟨p, vs, e, h1, h2⟩ := h
    exact ⟨p, vs, e, h1, Reps.mono hm.sub _ _ h2⟩
  | lst ds =>
    obtain ⟨p, vs, e, h1, h2⟩ := h
    exact ⟨p, vs, e, h1, Reps.mono hm.sub _ _ h2⟩
  | exc n => exact Rep.mono hm.sub _ _ h
  | _ => exact h
theorem OkM.obj (hm : OkM g μ w) {k : Nat} {m : MO} {a : Addr} (e : μ[k]? = some m) (ea : w.ι[k]? = some a) : MRep g w a m := by
  obtain ⟨b, eb, h⟩ := hm.at_ k m e
  rw [ea] at eb
  cases eb
  exact h
theorem asP_rep (hm : OkM g μ w) (h : RPer g scr w r v) {d : P} (e : asP r μ = some d) : TRep g w d v := by
  cases r with
  | p d' =>
    cases e
    exact TRep.of hm h
  | o k =>
    obtain ⟨a, ea, rfl⟩ := h
    cases q : μ[k]? with
    | none => simp only [asP, q] at e; cases e
    | some m =>
      have z := hm.obj q ea
      cases m with
      | lst xs =>
        simp only [asP, q] at e
        cases e
        obtain ⟨_, vs, h1, h2⟩ := z
        exact ⟨a, vs, rfl, h1, h2⟩
      | froz xs =>
        simp only [asP, q] at e
        cases e
        obtain ⟨vs, h1, h2⟩ := z
        exact ⟨a, vs, rfl, hm.sub _ _ h1, h2⟩
  | n ds =>
    cases e
    obtain ⟨p, vs, rfl, h1, _, h4⟩ := h
    exact ⟨p, vs, rfl, h1, h4⟩
  | scr => cases e
/-! steps of worlds -/
theorem OkM.tracked (hm : OkM g μ w) {a : Addr} (h : a ∈ w.ι) : w.H a ≠ none := by
  obtain ⟨k, hk, rfl⟩ := List.getElem_of_mem h
  have hk' : k < μ.length := by rw [← hm.len]; exact hk
  obtain ⟨b, eb, z⟩ := hm.at_ k μ[k] (List.getElem?_eq_getElem hk')
  rw [List.getElem?_eq_getElem hk] at eb
  cases eb
  intro q
  cases e : μ[k] with
  | lst xs =>
    rw [e] at z
    obtain ⟨_, vs, h1, _⟩ := z
    rw [q] at h1
    cases h1
  | froz xs =>
    rw [e] at z
    obtain ⟨vs, h1, _⟩ := z
    have h2 := hm.sub _ _ h1
    rw [q] at h2
    cases h2
/-- something new in the heap, for now ours alone -/
theorem new_H (hm : OkM g μ w) {p : Addr} {o : HO} (hp : w.H p = none) : Grow w ⟨w.ι, w.Hb, upd w.H p o, w.pr⟩ ∧ OkM g μ ⟨w.ι, w.Hb, upd w.H p o, w.pr⟩ := by
  have hni : p ∉ w.ι := fun h => hm.tracked h hp
  refine ⟨⟨Ex.refl _, List.prefix_refl _, fun a o' h _ => by show upd w.H p o a = _; rw [upd_ne (ne_of_none h hp)]; exact h, fun _ h => .inl h, fun a h => ?_, rfl⟩,
    ⟨fun a o' h => ?_, hm.len, hm.nd, fun k m e => ?_, fun a ha => ?_⟩⟩
  · by_cases ha : a = p
    · rw [ha]; exact hp
    · have h' : upd w.H p o a = none := h
      rw [upd_ne ha] at h'
      exact h'
  · show upd w.H p o a = _
    rw [upd_ne (ne_of_none (hm.sub _ _ h) hp)]
    exact hm.sub _ _ h
  · obtain ⟨a, ea, z⟩ := hm.at_ k m e
    refine ⟨a, ea, ?_⟩
    have hap : a ≠ p := fun q => hni (q ▸ List.mem_of_getElem? ea)
    cases m with
    | lst xs =>
      obtain ⟨z1, vs, z2, z3⟩ := z
      exact ⟨z1, vs, by show upd w.H p o a = _; rw [upd_ne hap]; exact z2, z3⟩
    | froz xs => exact z
  · obtain ⟨z1, z2, vs, z3⟩ := hm.pr a ha
    exact ⟨z1, z2, vs, by show upd w.H p o a = _; rw [upd_ne (ne_of_none z3 hp)]; exact z3⟩
/-- a thing of ours, not of the store, stays from now on -/
theorem keep_Hb (hm : OkM g μ w) {p : Addr} {o : HO} (hp : w.H p = some o) (hb : w.Hb p = none) (hi : p ∉ w.ι) (hpr : p ∉ w.pr) : Grow w ⟨w.ι, upd w.Hb p o, w.H, w.pr⟩ ∧ OkM g μ ⟨w.ι, upd w.Hb p o, w.H, w.pr⟩ := by
  have ex : Ex w.Hb (upd w.Hb p o) := Ex.new hb
  refine ⟨⟨ex, List.prefix_refl _, fun a o' h _ => h, fun _ h => .inl h, fun a h => h, rfl⟩, ⟨fun a o' h => ?_, hm.len, hm.nd, fun k m e => ?_, fun a ha => ?_⟩⟩
  · by_cases ha : a = p
    · subst ha
      have h' : upd w.Hb a o a = some o' := h
      rw [upd_same] at h'
      cases h'
      exact hp
    · have h' : upd w.Hb p o a = some o' := h
      rw [upd_ne ha] at h'
      exact hm.sub _ _ h'
  · obtain ⟨a, ea, z⟩ := hm.at_ k m e
    refine ⟨a, ea, ?_⟩
    have hap : a ≠ p := fun q => hi (q ▸ List.mem_of_getElem? ea)
    cases m with
    | lst xs =>
      obtain ⟨z1, vs, z2, z3⟩ := z
      exact ⟨by show upd w.Hb p o a = _; rw [upd_ne hap]; exact z1, vs, z2, Reps.mono ex _ _ z3⟩
    | froz xs =>
      obtain ⟨vs, z2, z3⟩ := z
      exact ⟨vs, ex _ _ z2, Reps.mono ex _ _ z3⟩
  · obtain ⟨z1, z2⟩ := hm.pr a ha
    exact ⟨by show upd w.Hb p o a = _; rw [upd_ne (fun q : a = p => hpr (by rw [← q]; exact ha))]; exact z1, z2⟩
theorem OkM.not_pr (hm : OkM g μ w) {a : Addr} (h : w.H a = none) : a ∉ w.pr := fun q => by
  obtain ⟨_, _, vs, z⟩ := hm.pr a q
  rw [h] at z
  cases z
/-- something new in the heap, that stays -/
theorem new_Hb (hm : OkM g μ w) {p : Addr} {o : HO} (hp : w.H p = none) : Grow w ⟨w.ι, upd w.Hb p o, upd w.H p o, w.pr⟩ ∧ OkM g μ ⟨w.ι, upd w.Hb p o, upd w.H p o, w.pr⟩ := by
  obtain ⟨g1, m1⟩ := new_H hm (o := o) hp
  have hb : w.Hb p = none := by
    cases e : w.Hb p with
    | none => rfl
    | some u =>
      have := hm.sub _ _ e
      rw [hp] at this
      cases this
  obtain ⟨g2, m2⟩ := keep_Hb (p := p) (o := o) m1 (by show upd w.H p o p = _; rw [upd_same]) hb (fun h => hm.tracked h hp) (hm.not_pr hp)
  exact ⟨g1.trans g2, m2⟩
theorem Hb_none (hm : OkM g μ w) {p : Addr} (hp : w.H p = none) : w.Hb p = none := by
  cases e : w.Hb p with
  | none => rfl
  | some u =>
    have := hm.sub _ _ e
    rw [hp] at this
    cases this
/-- a new list joins the store -/
theorem join_ι (hm : OkM g μ w) {p : Addr} {ds : List P} {vs : List V} (hp : w.H p = some (.lst vs)) (hb : w.Hb p = none) (hi : p ∉ w.ι) (hpr : p ∉ w.pr) (hr : Reps g w.Hb ds vs) :
    OkM g (μ ++ [.lst ds]) ⟨w.ι ++ [p], w.Hb, w.H, w.pr⟩ := by
  refine ⟨hm.sub, by simp [hm.len], ?_, fun k m e => ?_, fun a ha => ?_⟩
  · rw [List.nodup_append]
    exact ⟨hm.nd, by simp, fun a ha b hb' e => by simp at hb'; subst hb'; subst e; exact hi ha⟩
  · by_cases hk : k < μ.length
    · rw [List.getElem?_append_left hk] at e
      obtain ⟨a, ea, z⟩ := hm.at_ k m e
      exact ⟨a, by show (w.ι ++ [p])[k]? = _; rw [List.getElem?_append_left (by rw [hm.len]; exact hk)]; exact ea, by cases m <;> exact z⟩
    · have hk' : k = μ.length := by
        have := (List.getElem?_eq_some_iff.mp e).1
        simp at this
        omega
      subst hk'
      rw [List.getElem?_append_right (Nat.le_refl _)] at e
      simp at e
      subst e
      exact ⟨p, by show (w.ι ++ [p])[μ.length]? = _; rw [List.getElem?_append_right (by rw [hm.len]; exact Nat.le_refl _), hm.len]; simp, hb, vs, hp, hr⟩
  · obtain ⟨z1, z2, z3⟩ := hm.pr a ha
    refine ⟨z1, fun q => ?_, z3⟩
    rcases List.mem_append.mp q with q | q
    · exact z2 q
    · exact hpr (by rw [List.mem_singleton.mp q] at ha; exact ha)
/-- a list of the store is written -/
theorem put_ι (hm : OkM g μ w) {k : Nat} {a : Addr} {xs ds : List P} {vs : List V} (e : μ[k]? = some (.lst xs)) (ea : w.ι[k]? = some a) (hr : Reps g w.Hb ds vs) :
    Grow w ⟨w.ι, w.Hb, upd w.H a (.lst vs), w.pr⟩ ∧ OkM g (μ.set k (.lst ds)) ⟨w.ι, w.Hb, upd w.H a (.lst vs), w.pr⟩ := by
  obtain ⟨h1, us, h2, _⟩ := hm.obj e ea
  have hk : k < μ.length := (List.getElem?_eq_some_iff.mp e).1
  refine ⟨⟨Ex.refl _, List.prefix_refl _, fun b o h hn => ?_, fun _ h => .inl h, fun b h => ?_, rfl⟩, ⟨fun b o h => ?_, by simp [hm.len], hm.nd, fun j m ej => ?_, fun b hb => ?_⟩⟩
  · have hba : b ≠ a := fun q => hn (by rw [q]; exact List.mem_of_getElem? ea)
    show upd w.H a _ b = _
    rw [upd_ne hba]
    exact h
  · by_cases hb : b = a
    · subst hb
      have h' : upd w.H b (.lst vs) b = none := h
      rw [upd_same] at h'
      cases h'
    · have h' : upd w.H a (.lst vs) b = none := h
      rw [upd_ne hb] at h'
      exact h'
  · show upd w.H a _ b = _
    rw [upd_ne fun q => by
      have h' : w.Hb b = some o := h
      rw [q, h1] at h'; cases h']
    exact hm.sub _ _ h
  · by_cases hj : j = k
    · subst hj
      rw [List.getElem?_set_self hk] at ej
      cases ej
      exact ⟨a, ea, h1, vs, by show upd w.H a _ a = _; rw [upd_same], hr⟩
    · rw [List.getElem?_set_ne (Ne.symm hj)] at ej
      obtain ⟨b, eb, z⟩ := hm.at_ j m ej
      have hba : b ≠ a := fun q => by
        subst q
        have h1 := List.getElem?_eq_some_iff.mp ea
        have h2 := List.getElem?_eq_some_iff.mp eb
        exact hj ((List.getElem_inj hm.nd).mp (h2.2.trans h1.2.symm))
      refine ⟨b, eb, ?_⟩
      cases m with
      | lst ys =>
        obtain ⟨z1, vs', z2, z3⟩ := z
        exact ⟨z1, vs', by show upd w.H a _ b = _; rw [upd_ne hba]; exact z2, z3⟩
      | froz ys => exact z
  · obtain ⟨z1, z2, vs', z3⟩ := hm.pr b hb
    exact ⟨z1, z2, vs', by show upd w.H a _ b = _; rw [upd_ne (fun q : b = a => z2 (by rw [q]; exact List.mem_of_getElem? ea))]; exact z3⟩
/-- a list of the store is made data -/
theorem froz_ι (hm : OkM g μ w) {k : Nat} {a : Addr} {xs : List P} (e : μ[k]? = some (.lst xs)) (ea : w.ι[k]? = some a) :
    ∃ vs, w.H a = some (.lst vs) ∧ Reps g w.Hb xs vs ∧ Grow w ⟨w.ι, upd w.Hb a (.lst vs), w.H, w.pr⟩ ∧ OkM g (μ.set k (.froz xs)) ⟨w.ι, upd w.Hb a (.lst vs), w.H, w.pr⟩ := by
  obtain ⟨h1, vs, h2, h3⟩ := hm.obj e ea
  have hk : k < μ.length := (List.getElem?_eq_some_iff.mp e).1
  have ex : Ex w.Hb (upd w.Hb a (.lst vs)) := Ex.new h1
  refine ⟨vs, h2, h3, ⟨ex, List.prefix_refl _, fun b o h hn => h, fun _ h => .inl h, fun b h => h, rfl⟩, ⟨fun b o h => ?_, by simp [hm.len], hm.nd, fun j m ej => ?_, fun b hb => ?_⟩⟩
  · by_cases hb : b = a
    · subst hb
      have h' : upd w.Hb b (.lst vs) b = some o := h
      rw [upd_same] at h'
      cases h'
      exact h2
    · have h' : upd w.Hb a (.lst vs) b = some o := h
      rw [upd_ne hb] at h'
      exact hm.sub _ _ h'
  · by_cases hj : j = k
    · subst hj
      rw [List.getElem?_set_self hk] at ej
      cases ej
      exact ⟨a, ea, vs, by show upd w.Hb a _ a = _; rw [upd_same], Reps.mono ex _ _ h3⟩
    · rw [List.getElem?_set_ne (Ne.symm hj)] at ej
      obtain ⟨b, eb, z⟩ := hm.at_ j m ej
      have hba : b ≠ a := fun q => by
        subst q
        have h1 := List.getElem?_eq_some_iff.mp ea
        have h2 := List.getElem?_eq_some_iff.mp eb
        exact hj ((List.getElem_inj hm.nd).mp (h2.2.trans h1.2.symm))
      refine ⟨b, eb, ?_⟩
      cases m with
      | lst ys =>
        obtain ⟨z1, vs', z2, z3⟩ := z
        exact ⟨by show upd w.Hb a _ b = _; rw [upd_ne hba]; exact z1, vs', z2, Reps.mono ex _ _ z3⟩
      | froz ys =>
        obtain ⟨vs', z2, z3⟩ := z
        exact ⟨vs', ex _ _ z2, Reps.mono ex _ _ z3⟩
  · obtain ⟨z1, z2, z3⟩ := hm.pr b hb
    exact ⟨by show upd w.Hb a _ b = _; rw [upd_ne (fun q : b = a => z2 (by rw [q]; exact List.mem_of_getElem? ea))]; exact z1, z2, z3⟩
/-- making data of a value: the heap itself does not change -/
theorem frz_rep (hm : OkM g μ w) (h : RRep g scr w r v) {d : P} {μ' : Mu} (e : frz r μ = some (d, μ')) :
    ∃ w', w'.H = w.H ∧ Grow w w' ∧ OkM g μ' w' ∧ Rep g w'.Hb d v := by
  cases r with
  | p d' =>
    cases e
    exact ⟨w, rfl, Grow.refl w, hm, h⟩
  | n ds =>
    cases e
    obtain ⟨p, vs, rfl, h1, h2, h3, h5, h4⟩ := h
    obtain ⟨g1, m1⟩ := keep_Hb hm h1 h2 h3 h5
    exact ⟨⟨w.ι, upd w.Hb p (.lst vs), w.H, w.pr⟩, rfl, g1, m1, p, vs, rfl, upd_same, Reps.mono g1.hb _ _ h4⟩
  | o k =>
    obtain ⟨a, ea, rfl⟩ := h
    cases q : μ[k]? with
    | none => simp only [frz, q] at e; cases e
    | some m =>
      cases m with
      | lst xs =>
        simp only [frz, q] at e
        cases e
        obtain ⟨vs, h1, h2, g1, m1⟩ := froz_ι hm q ea
        exact ⟨⟨w.ι, upd w.Hb a (.lst vs), w.H, w.pr⟩, rfl, g1, m1, a, vs, rfl, upd_same, Reps.mono g1.hb _ _ h2⟩
      | froz xs =>
        simp only [frz, q] at e
        cases e
        obtain ⟨vs, h1, h2⟩ := hm.obj q ea
        exact ⟨w, rfl, Grow.refl w, hm, a, vs, rfl, h1, h2⟩
  | scr => cases e
end
end R

set_option Elab.async false
set_option linter.all false
set_option maxRecDepth 100000
set_option maxHeartbeats 1000000
/-! # R3: the operations -/
namespace R
open PySem L2 PyProof.Rows
section
variable (X : Cx)
/-- what is asked of an operation on values, and no more -/
def wOp (f : Value → Value → Sem Value) : L2.R2 := fun x y H Q => ∀ (pins : List (Addr × Obj)) (s : Shared) (σ : L2.St) (v u : Value), Inv X pins σ H s → RelV x v → RelV y u → wpAny (model X.prog X.w) X.A (f v u) (EP X pins σ Q) X.xe s
def wUn (f : Value → Sem Value) : V → Hp → VK → Prop := fun x H Q => ∀ (pins : List (Addr × Obj)) (s : Shared) (σ : L2.St) (v : Value), Inv X pins σ H s → RelV x v → wpAny (model X.prog X.w) X.A (f v) (EP X pins σ Q) X.xe s
def wCall (f : Value) : List V → Hp → VK → Prop := fun xs H Q => ∀ (pins : List (Addr × Obj)) (s : Shared) (σ : L2.St) (us : List Value), Inv X pins σ H s → Vals xs us → wpAny (model X.prog X.w) X.A (call f us) (EP X pins σ Q) X.xe s
def wTru : V → Hp → (Bool → Hp → Prop) → Prop := fun x H Q => ∀ (pins : List (Addr × Obj)) (s : Shared) (σ : L2.St) (v : Value), Inv X pins σ H s → RelV x v → wpAny (model X.prog X.w) X.A (truthy v) (TP X pins σ Q) X.xe s
def wIx : L2.R2 := fun x y H Q => ∀ (value slice : Expr) (pins : List (Addr × Obj)) (s : Shared) (σ : L2.St) (v u : Value), Inv X pins σ H s → RelV x v → RelV y u → subscripted slice false v u = operate [v, u] (getItem v u) → wpAny (model X.prog X.w) X.A (subscriptTail value slice v u) (EP X pins σ Q) X.xe s
def wSl : V → Option Int → Option Int → Hp → VK → Prop := fun x lo hi H Q => ∀ (pins : List (Addr × Obj)) (s : Shared) (σ : L2.St) (v vl vu : Value) (sl : Addr), Inv X pins σ H s → RelV x v → s.heap.IsSliceOf sl vl vu .none → IsPart vl lo → IsPart vu hi →
  ∃ T id, typeLookup (.type T) "__getitem__" = pure (some (.builtin id)) ∧ s.TypeIs v T ∧ wpAny (model X.prog X.w) X.A (getItem v (.ref sl)) (EP X pins σ Q) X.xe s
def wMt (id : String) : V → List V → Hp → VK → Prop := fun x xs H Q => ∀ (pins : List (Addr × Obj)) (s : Shared) (σ : L2.St) (v : Value) (us : List Value), Inv X pins σ H s → RelV x v → Vals xs us → wpAny (model X.prog X.w) X.A (call (.builtin id) (v :: us)) (EP X pins σ Q) X.xe s
end
section
variable {X : Cx} {x y : V} {H : Hp} {Q : VK}
theorem opR_w (f : Value → Value → Sem Value) : OpR X f (wOp X f) := fun pins s σ H x y v u Q I rx ry h => h pins s σ v u I rx ry
theorem wOp_of {f : Value → Value → Sem Value} {r : L2.R2} (h : OpR X f r) (q : r x y H Q) : wOp X f x y H Q := fun pins s σ v u I rx ry => h pins s σ H x y v u Q I rx ry q
theorem unR_w (f : Value → Sem Value) : UnR X f (wUn X f) := fun pins s σ H x v Q I rx h => h pins s σ v I rx
theorem wUn_of {f : Value → Sem Value} {r : V → Hp → VK → Prop} (h : UnR X f r) (q : r x H Q) : wUn X f x H Q := fun pins s σ v I rx => h pins s σ H x v Q I rx q
theorem callR_w (f : Value) : CallR X f (wCall X f) := fun pins s σ H xs us Q I r h => h pins s σ us I r
theorem wCall_of {f : Value} {r : List V → Hp → VK → Prop} {xs : List V} (h : CallR X f r) (q : r xs H Q) : wCall X f xs H Q := fun pins s σ us I rs => h pins s σ H xs us Q I rs q
theorem truR_w : TruR X (wTru X) := fun pins s σ H x v Q I rx h => h pins s σ v I rx
theorem wTru_of {r : V → Hp → (Bool → Hp → Prop) → Prop} {Q : Bool → Hp → Prop} (h : TruR X r) (q : r x H Q) : wTru X x H Q := fun pins s σ v I rx => h pins s σ H x v Q I rx q
theorem ixR_w : IxR X (wIx X) := fun a b pins s σ H x y v u Q I rx ry h hs => h a b pins s σ v u I rx ry hs
theorem wIx_of {r : L2.R2} (h : IxR X r) (q : r x y H Q) : wIx X x y H Q := fun a b pins s σ v u I rx ry hs => h a b pins s σ H x y v u Q I rx ry q hs
theorem slR_w : SlR X (wSl X) := fun pins s σ H x v vl vu lo hi sl Q I rx hs pl pu h => h pins s σ v vl vu sl I rx hs pl pu
theorem wSl_of {r : V → Option Int → Option Int → Hp → VK → Prop} {lo hi : Option Int} (h : SlR X r) (q : r x lo hi H Q) : wSl X x lo hi H Q := fun pins s σ v vl vu sl I rx hs pl pu => h pins s σ H x v vl vu lo hi sl Q I rx hs pl pu q
theorem mtR_w (id : String) : MtR X id (wMt X id) := fun pins s σ H x xs v us Q I rx rs h => h pins s σ v us I rx rs
theorem wMt_of {id : String} {r : V → List V → Hp → VK → Prop} {xs : List V} (h : MtR X id r) (q : r x xs H Q) : wMt X id x xs H Q := fun pins s σ v us I rx rs => h pins s σ H x xs v us Q I rx rs q
end

/-! ### the end of an operation -/
def OpPost (g : Gx) (scr : List Int) (w : Wd) (μ : Mu) (Q : VK) (r : Rv) : Prop := ∀ w' v, Grow w w' → OkM g μ w' → RRep g scr w' r v → Fresh w r v → Q v w'.H
section
variable {g : Gx} {scr : List Int} {w : Wd} {μ : Mu} {Q : VK}
theorem post_p (hm : OkM g μ w) {d : P} {v : V} (hq : OpPost g scr w μ Q (.p d)) (h : Rep g w.Hb d v) : Q v w.H := hq w v (Grow.refl w) hm h trivial
theorem post_tup (hm : OkM g μ w) {ds : List P} {vs : List V} (hq : OpPost g scr w μ Q (.p (.tup ds))) (hr : Reps g w.Hb ds vs) {p : Addr} (hp : w.H p = none) : Q (.ref p) (upd w.H p (.tup vs)) := by
  obtain ⟨g1, m1⟩ := new_Hb hm (o := .tup vs) hp
  exact hq ⟨w.ι, upd w.Hb p (.tup vs), upd w.H p (.tup vs), w.pr⟩ _ g1 m1 ⟨p, vs, rfl, upd_same, Reps.mono g1.hb _ _ hr⟩ trivial
theorem post_lst (hm : OkM g μ w) {ds : List P} {vs : List V} (hq : OpPost g scr w μ Q (.n ds)) (hr : Reps g w.Hb ds vs) {p : Addr} (hp : w.H p = none) : Q (.ref p) (upd w.H p (.lst vs)) := by
  obtain ⟨g1, m1⟩ := new_H hm (o := .lst vs) hp
  refine hq ⟨w.ι, w.Hb, upd w.H p (.lst vs), w.pr⟩ _ g1 m1 ⟨p, vs, rfl, upd_same, Hb_none hm hp, fun h => hm.tracked h hp, hm.not_pr hp, hr⟩ fun q e => ?_
  cases e
  exact hp
theorem size_le {n : Nat} (h : n ≤ big) : n ≤ sizeLine := Nat.le_trans h (by decide)
theorem size_lt {n : Nat} (h : n < big) : n < sizeLine := Nat.lt_of_lt_of_le h (by decide)
theorem trep_lst {ds : List P} {v : V} (h : TRep g w (.lst ds) v) : ∃ p vs, v = .ref p ∧ w.H p = some (.lst vs) ∧ Reps g w.Hb ds vs := h
theorem trep_tup {ds : List P} {v : V} (h : TRep g w (.tup ds) v) : ∃ p vs, v = .ref p ∧ w.H p = some (.tup vs) ∧ Reps g w.Hb ds vs := h
/-- what every rule here may lean on -/
structure XOk (g : Gx) (X : Cx) : Prop where
  prog : X.prog = g.prog
  wd : X.w = g.wd
  K : X.K = g.K
  mg : X.mg = g.mg
  base : X.base = g.base
  calm : X.calm = true
  un : X.A.units + 100 < cLine
variable {X : Cx} (hX : XOk g X) {x y : V}
include hX
theorem bin_ok (hm : OkM g μ w) {op : Operator} {a b : P} {r : Rv} (e : binP op a b = some r) (ha : TRep g w a x) (hb : TRep g w b y) (hq : OpPost g scr w μ Q r) : wOp X (binaryOp op) x y w.H Q := by
  unfold binP at e
  split at e
  · cases e
    have ha' : x = .int _ := ha
    have hb' : y = .int _ := hb
    exact wOp_of op_add ⟨_, _, ha', hb', post_p hm hq rfl⟩
  · split at e <;> cases e
    rename_i i j hz
    have ha' : x = .str _ := ha
    have hb' : y = .str _ := hb
    exact wOp_of op_add_str ⟨_, _, ha', hb', size_le hz, post_p hm hq rfl⟩
  · split at e <;> cases e
    rename_i i j hz
    obtain ⟨p, vs, rfl, hp, hr⟩ := trep_lst ha
    obtain ⟨q, us, rfl, hq', hr'⟩ := trep_lst hb
    exact wOp_of op_cat ⟨p, q, vs, us, rfl, rfl, hp, hq', by rw [hr.length, hr'.length]; exact size_le hz, fun l hl => post_lst hm hq (hr.append hr') hl⟩
  · split at e <;> cases e
    rename_i i j hz
    obtain ⟨p, vs, rfl, hp, hr⟩ := trep_tup ha
    obtain ⟨q, us, rfl, hq', hr'⟩ := trep_tup hb
    have key : ∀ {l : Addr} {zs : List V}, w.H l = some (.tup zs) → Reps g w.Hb (i ++ j) zs → Q (.ref l) w.H := fun {l zs} hl hz' => by
      cases hbl : w.Hb l with
      | some o =>
        have h1 := hm.sub _ _ hbl
        rw [hl] at h1
        cases h1
        exact post_p hm hq ⟨l, zs, rfl, hbl, hz'⟩
      | none =>
        have hni : l ∉ w.ι := fun h => by
          obtain ⟨k, hk, e⟩ := List.getElem_of_mem h
          have hk' : k < μ.length := by rw [← hm.len]; exact hk
          obtain ⟨b, eb, z⟩ := hm.at_ k μ[k] (List.getElem?_eq_getElem hk')
          rw [List.getElem?_eq_getElem hk, e] at eb
          cases eb
          cases em : μ[k] with
          | lst xs =>
            rw [em] at z
            obtain ⟨_, vs', h1, _⟩ := z
            rw [hl] at h1
            cases h1
          | froz xs =>
            rw [em] at z
            obtain ⟨vs', h1, _⟩ := z
            rw [hbl] at h1
            cases h1
        obtain ⟨g1, m1⟩ := keep_Hb hm hl hbl hni (fun q => by obtain ⟨_, _, vs', z⟩ := hm.pr _ q; rw [hl] at z; cases z)
        exact hq ⟨w.ι, upd w.Hb l (.tup zs), w.H, w.pr⟩ _ g1 m1 ⟨l, zs, rfl, upd_same, Reps.mono g1.hb _ _ hz'⟩ trivial
    refine wOp_of op_catA ⟨p, q, vs, us, rfl, rfl, by rw [hX.K]; exact SqT.of hp, by rw [hX.K]; exact SqT.of hq', by rw [hr.length, hr'.length]; exact size_le hz, fun e => ?_, fun _ e => ?_, fun _ _ l hl => post_tup hm hq (hr.append hr') hl⟩
    · subst e
      exact key hq' (by simpa using hr.append hr')
    · subst e
      exact key hp (by simpa using hr.append hr')
  · cases e
    have ha' : x = .int _ := ha
    have hb' : y = .int _ := hb
    exact wOp_of op_sub ⟨_, _, ha', hb', post_p hm hq rfl⟩
  · split at e <;> cases e
    rename_i i j hz
    have ha' : x = .int _ := ha
    have hb' : y = .int _ := hb
    exact wOp_of op_mulW ⟨_, _, ha', hb', hz, post_p hm hq rfl⟩
  · split at e <;> cases e
    rename_i xs k hz
    obtain ⟨p, vs, rfl, hp, hr⟩ := trep_lst ha
    have hb' : y = .int _ := hb
    subst hb'
    exact wOp_of op_rep ⟨p, k, vs, rfl, rfl, hp, by omega, by omega, by rw [hr.length]; exact size_le hz.2, fun l hl => post_lst hm hq (hr.rep _) hl⟩
  · split at e <;> cases e
    rename_i xs k hz
    obtain ⟨p, vs, rfl, hp, hr⟩ := trep_tup ha
    have hb' : y = .int _ := hb
    subst hb'
    refine wOp_of op_repT ⟨p, k, vs, rfl, rfl, by rw [hX.K]; exact SqT.of hp, fun e => hz.1 ?_, hz.2.1, by omega, by rw [hr.length]; exact hz.2.2.2, fun l hl => post_tup hm hq (hr.rep _) hl⟩
    have h1 := hr.length
    rw [e] at h1
    exact List.eq_nil_of_length_eq_zero h1.symm
  · split at e <;> cases e
    rename_i i j hz
    have ha' : x = .int _ := ha
    have hb' : y = .int _ := hb
    exact wOp_of op_mod ⟨_, _, ha', hb', hz, post_p hm hq rfl⟩
  · split at e <;> cases e
    rename_i i j hz
    have ha' : x = .int _ := ha
    have hb' : y = .int _ := hb
    exact wOp_of op_fdivW ⟨_, _, ha', hb', hz, post_p hm hq rfl⟩
  · split at e <;> cases e
    rename_i i j hz
    have ha' : x = .int _ := ha
    have hb' : y = .int _ := hb
    exact wOp_of op_pow ⟨_, _, ha', hb', ⟨hz.1, by omega, hz.2.2⟩, post_p hm hq rfl⟩
  · cases e
theorem eq_ok (hm : OkM g μ w) {a b : P} {k : Bool} (e : eqP a b = some k) (ha : TRep g w a x) (hb : TRep g w b y) : (OpPost g scr w μ Q (.p (.bl k)) → wOp X (compareOp .Eq) x y w.H Q) ∧ (OpPost g scr w μ Q (.p (.bl (!k))) → wOp X (compareOp .NotEq) x y w.H Q) := by
  unfold eqP at e
  split at e
  · cases e
    have ha' : x = .int _ := ha
    have hb' : y = .int _ := hb
    subst ha' hb'
    have de : ∀ i j : Int, decide (V.int i = V.int j) = decide (i = j) := fun i j => decide_eq_decide.mpr ⟨V.int.inj, congrArg _⟩
    refine ⟨fun hq => wOp_of op_eq ⟨rfl, ?_⟩, fun hq => wOp_of op_ne ⟨rfl, ?_⟩⟩ <;> rw [de] <;> exact post_p hm hq rfl
  · cases e
    have ha' : x = .str _ := ha
    have hb' : y = .str _ := hb
    subst ha' hb'
    have de : ∀ i j : Str, decide (V.str i = V.str j) = decide (i = j) := fun i j => decide_eq_decide.mpr ⟨V.str.inj, congrArg _⟩
    refine ⟨fun hq => wOp_of op_eq ⟨rfl, ?_⟩, fun hq => wOp_of op_ne ⟨rfl, ?_⟩⟩ <;> rw [de] <;> exact post_p hm hq rfl
  · cases e
    have ha' : x = .bl _ := ha
    have hb' : y = .bl _ := hb
    subst ha' hb'
    have de : ∀ i j : Bool, decide (V.bl i = V.bl j) = (i == j) := fun i j => by cases i <;> cases j <;> decide
    refine ⟨fun hq => wOp_of op_eq ⟨rfl, ?_⟩, fun hq => wOp_of op_ne ⟨rfl, ?_⟩⟩ <;> rw [de] <;> exact post_p hm hq rfl
  · split at e
    · rename_i d f hd hf
      split at e <;> cases e
      rename_i hs
      rw [Bool.and_eq_true] at hs
      have e1 := Rep.dp X.K _ _ _ (TRep.H hm ha) hd
      have e2 := Rep.dp X.K _ _ _ (TRep.H hm hb) hf
      have hu : X.A.units + 64 < cLine := by have := hX.un; omega
      exact ⟨fun hq => wOp_of (op_eqD hu) ⟨d, f, e1, e2, hs.1, hs.2, post_p hm hq rfl⟩, fun hq => wOp_of (op_neD hu) ⟨d, f, e1, e2, hs.1, hs.2, post_p hm hq rfl⟩⟩
    · cases e
omit hX in
theorem eqV_eqv {H : Hp} {a b : P} {x y : V} {d f : PyData} (ha : Rep g H a x) (hb : Rep g H b y) (sa : scalP a = true) (sb : scalP b = true) (ea : pyOf a = some d) (eb : pyOf b = some f) : eqV x y = PyData.eqv d f := by
  cases a <;> simp only [scalP] at sa <;> try (cases sa; done)
  all_goals
    cases b <;> simp only [scalP] at sb <;> try (cases sb; done)
  all_goals
    simp only [pyOf] at ea eb
    cases ea
    cases eb
    simp only [Rep] at ha hb
    subst ha hb
    simp [eqV, PyData.eqv]
omit hX in
theorem flat_of {H : Hp} {a : P} {x : V} (ha : Rep g H a x) (sa : scalP a = true) : flatV x = true := by
  cases a <;> simp only [scalP] at sa <;> try (cases sa; done)
  all_goals
    simp only [Rep] at ha
    subst ha
    rfl
omit hX in
theorem inV_any {H : Hp} {a : P} {x : V} {d : PyData} (ha : Rep g H a x) (sa : scalP a = true) (ea : pyOf a = some d) : ∀ {xs : List P} {vs : List V} {ds : List PyData}, Reps g H xs vs → flatsP xs = true → pyOfs xs = some ds →
    inV x vs = (ds.any fun z => PyData.eqv z d) ∧ vs.all flatV = true
  | [], vs, ds, h, _, e => by
    have h' : vs = [] := h
    subst h'
    simp only [pyOfs] at e
    cases e
    exact ⟨rfl, rfl⟩
  | z :: zs, vs, ds, h, f, e => by
    obtain ⟨v, r, rfl, h1, h2⟩ := h
    simp only [flatsP, List.all_cons, Bool.and_eq_true] at f
    simp only [pyOfs] at e
    cases q : pyOf z with
    | none => rw [q] at e; cases e
    | some dz =>
      cases q2 : pyOfs zs with
      | none => rw [q, q2] at e; cases e
      | some dzs =>
        rw [q, q2] at e
        cases e
        obtain ⟨i1, i2⟩ := inV_any ha sa ea h2 f.2 q2
        refine ⟨?_, ?_⟩
        · show ((v :: r).any fun y => eqV y x) = _
          rw [List.any_cons, List.any_cons, eqV_eqv h1 ha f.1 sa q ea]
          exact congrArg _ i1
        · rw [List.all_cons, flat_of h1 f.1, i2]
          rfl
theorem in_ok (hm : OkM g μ w) {a b : P} {k : Bool} (e : inP a b = some k) (ha : TRep g w a x) (hb : TRep g w b y) : (OpPost g scr w μ Q (.p (.bl k)) → wOp X (compareOp .In) x y w.H Q) ∧ (OpPost g scr w μ Q (.p (.bl (!k))) → wOp X (compareOp .NotIn) x y w.H Q) := by
  unfold inP at e
  split at e
  · rename_i xs
    split at e
    · rename_i hs
      rw [Bool.and_eq_true] at hs
      split at e <;> cases e
      rename_i d ds hd hds
      obtain ⟨p, vs, rfl, hp, hr⟩ := trep_tup hb
      have ha' := TRep.H hm ha
      have hr' := Reps.mono hm.sub _ _ hr
      obtain ⟨i1, i2⟩ := inV_any ha' hs.1 hd hr' hs.2 hds
      refine ⟨fun hq => wOp_of op_in_seq ⟨p, vs, rfl, .inr (by rw [hX.K]; exact SqT.of hp), flat_of ha' hs.1, i2, ?_⟩, fun hq => wOp_of op_notIn_seq ⟨p, vs, rfl, .inr (by rw [hX.K]; exact SqT.of hp), flat_of ha' hs.1, i2, ?_⟩⟩
      · rw [if_neg Bool.false_ne_true, i1]; exact post_p hm hq rfl
      · rw [if_pos rfl, i1]; exact post_p hm hq rfl
    · cases e
  · rename_i xs
    split at e
    · rename_i d ds hd hds
      split at e <;> cases e
      rename_i hs
      rw [Bool.and_eq_true] at hs
      have e1 := Rep.dp X.K _ _ _ (TRep.H hm ha) hd
      have e2 := Rep.dp X.K (.lst xs) _ (.list ds) (TRep.H hm hb) (by simp only [pyOf, hds, Option.map_some])
      have hu : X.A.units + 65 < cLine := by have := hX.un; omega
      exact ⟨fun hq => wOp_of (op_inD hu) ⟨d, ds, e1, e2, hs.1, hs.2, post_p hm hq rfl⟩, fun hq => wOp_of (op_notInD hu) ⟨d, ds, e1, e2, hs.1, hs.2, post_p hm hq rfl⟩⟩
    · cases e
  · rename_i z
    split at e
    · rename_i y'
      split at e
      · rename_i c hc
        cases e
        have ey : y' = ⟨#[c]⟩ := by
          obtain ⟨⟨l⟩⟩ := y'
          have hc' : l = [c] := hc
          rw [hc']
        have ha' : x = .str ⟨#[c]⟩ := by rw [← ey]; exact ha
        have hb' : y = .str _ := hb
        exact ⟨fun hq => wOp_of op_in_sign ⟨_, _, ha', hb', post_p hm hq rfl⟩, fun hq => wOp_of op_notIn_sign ⟨_, _, ha', hb', post_p hm hq rfl⟩⟩
      · cases e
    · cases e
  · cases e
theorem cmp_ok (hm : OkM g μ w) {op : CmpOp} {a b : P} {k : Bool} (e : cmpP op a b = some k) (ha : TRep g w a x) (hb : TRep g w b y) (hq : OpPost g scr w μ Q (.p (.bl k))) : wOp X (compareOp op) x y w.H Q := by
  unfold cmpP at e
  split at e
  · exact (eq_ok hX hm e ha hb).1 hq
  · cases q : eqP a b with
    | none => rw [q] at e; cases e
    | some k' =>
      rw [q] at e
      cases e
      exact (eq_ok hX hm q ha hb).2 hq
  · cases e
    have ha' : x = .int _ := ha
    have hb' : y = .int _ := hb
    exact wOp_of op_lt ⟨_, _, ha', hb', post_p hm hq rfl⟩
  · cases e
    have ha' : x = .int _ := ha
    have hb' : y = .int _ := hb
    exact wOp_of op_le ⟨_, _, ha', hb', post_p hm hq rfl⟩
  · cases e
    have ha' : x = .int _ := ha
    have hb' : y = .int _ := hb
    exact wOp_of op_gt ⟨_, _, ha', hb', post_p hm hq rfl⟩
  · cases e
    have ha' : x = .int _ := ha
    have hb' : y = .int _ := hb
    exact wOp_of op_ge ⟨_, _, ha', hb', post_p hm hq rfl⟩
  · split at e <;> cases e
    rename_i ns ms hn hms
    obtain ⟨p, vs, rfl, hp, hr⟩ := trep_tup ha
    obtain ⟨q, us, rfl, hq', hr'⟩ := trep_tup hb
    have e1 := hr.ints hn
    have e2 := hr'.ints hms
    subst e1 e2
    exact wOp_of (op_ltT (by have := hX.un; omega)) ⟨p, q, ns, ms, rfl, rfl, by rw [hX.K]; exact SqT.of hp, by rw [hX.K]; exact SqT.of hq', post_p hm hq rfl⟩
  · cases e
    have hb' : y = .non := hb
    refine wOp_of op_isN ⟨hb', ?_⟩
    refine post_p hm hq ?_
    cases a <;> simp only [TRep, Rep] at ha
    case non => subst ha; rfl
    case bl => subst ha; rfl
    case int => subst ha; rfl
    case str => subst ha; rfl
    case tup => obtain ⟨p, vs, rfl, _⟩ := ha; rfl
    case lst => obtain ⟨p, vs, rfl, _⟩ := ha; rfl
    case exc => obtain ⟨p, C, rfl, _⟩ := ha; rfl
  · cases e
    have hb' : y = .non := hb
    refine wOp_of op_notN ⟨hb', ?_⟩
    refine post_p hm hq ?_
    cases a <;> simp only [TRep, Rep] at ha
    case non => subst ha; rfl
    case bl => subst ha; rfl
    case int => subst ha; rfl
    case str => subst ha; rfl
    case tup => obtain ⟨p, vs, rfl, _⟩ := ha; rfl
    case lst => obtain ⟨p, vs, rfl, _⟩ := ha; rfl
    case exc => obtain ⟨p, C, rfl, _⟩ := ha; rfl
  · exact (in_ok hX hm e ha hb).1 hq
  · cases q : inP a b with
    | none => rw [q] at e; cases e
    | some k' =>
      rw [q] at e
      cases e
      exact (in_ok hX hm q ha hb).2 hq
  · cases e
omit hX in
theorem atI_rep {ds : List P} {vs : List V} {i : Int} {d : P} (h : Reps g w.Hb ds vs) (e : atI ds i = some d) : ∃ v, atI vs i = some v ∧ Rep g w.Hb d v := by
  unfold atI at e ⊢
  rw [h.length]
  cases q : ixN ds.length i with
  | none => rw [q] at e; cases e
  | some j =>
    rw [q] at e
    exact h.get e
theorem idx_ok (hm : OkM g μ w) {a b : P} {d : P} (e : idxP a b = some d) (ha : TRep g w a x) (hb : TRep g w b y) (hq : OpPost g scr w μ Q (.p d)) : wIx X x y w.H Q := by
  unfold idxP at e
  split at e
  · obtain ⟨p, vs, rfl, hp, hr⟩ := trep_lst ha
    have hb' : y = .int _ := hb
    obtain ⟨v, e1, hv⟩ := atI_rep hr e
    exact wIx_of ix_list ⟨p, vs, _, v, rfl, hb', by rw [hX.K]; exact SqL.of hp, e1, post_p hm hq hv⟩
  · obtain ⟨p, vs, rfl, hp, hr⟩ := trep_tup ha
    have hb' : y = .int _ := hb
    obtain ⟨v, e1, hv⟩ := atI_rep hr e
    exact wIx_of ix_tup ⟨p, vs, _, v, rfl, hb', by rw [hX.K]; exact SqT.of hp, e1, post_p hm hq hv⟩
  · split at e
    · rename_i z i hz
      cases q : atI z.cps.toList i with
      | none => rw [q] at e; cases e
      | some c =>
        rw [q] at e
        cases e
        have ha' : x = .str _ := ha
        have hb' : y = .int _ := hb
        exact wIx_of ix_str ⟨z, i, c, ha', hb', size_le hz, q, post_p hm hq rfl⟩
    · cases e
  · cases e
omit hX in
theorem cutP_rep {ds : List P} {vs : List V} (h : Reps g w.Hb ds vs) (lo hi : Option Int) : Reps g w.Hb (cutP ds lo hi) (cutV vs lo hi) := by
  unfold cutP cutV
  rw [h.length]
  exact (h.drop _).take _
omit hX in
/-- a tuple that stands in the heap, of data that stays -/
theorem post_stand (hm : OkM g μ w) {l : Addr} {ds : List P} {zs : List V} (hl : w.H l = some (.tup zs)) (hz : Reps g w.Hb ds zs) (hq : OpPost g scr w μ Q (.p (.tup ds))) : Q (.ref l) w.H := by
  cases hbl : w.Hb l with
  | some o =>
    have h1 := hm.sub _ _ hbl
    rw [hl] at h1
    cases h1
    exact post_p hm hq ⟨l, zs, rfl, hbl, hz⟩
  | none =>
    have hni : l ∉ w.ι := fun h => by
      obtain ⟨k, hk, e⟩ := List.getElem_of_mem h
      have hk' : k < μ.length := by rw [← hm.len]; exact hk
      obtain ⟨b, eb, z⟩ := hm.at_ k μ[k] (List.getElem?_eq_getElem hk')
      rw [List.getElem?_eq_getElem hk, e] at eb
      cases eb
      cases em : μ[k] with
      | lst xs =>
        rw [em] at z
        obtain ⟨_, vs', h1, _⟩ := z
        rw [hl] at h1
        cases h1
      | froz xs =>
        rw [em] at z
        obtain ⟨vs', h1, _⟩ := z
        rw [hbl] at h1
        cases h1
    obtain ⟨g1, m1⟩ := keep_Hb hm hl hbl hni (fun q => by obtain ⟨_, _, vs', z⟩ := hm.pr _ q; rw [hl] at z; cases z)
    exact hq ⟨w.ι, upd w.Hb l (.tup zs), w.H, w.pr⟩ _ g1 m1 ⟨l, zs, rfl, upd_same, Reps.mono g1.hb _ _ hz⟩ trivial
theorem slc_ok (hm : OkM g μ w) {a : P} {lo hi : Option Int} {r : Rv} (e : slcP a lo hi = some r) (ha : TRep g w a x) (hq : OpPost g scr w μ Q r) : wSl X x lo hi w.H Q := by
  unfold slcP at e
  split at e
  · cases e
    obtain ⟨p, vs, rfl, hp, hr⟩ := trep_lst ha
    exact wSl_of sl_list ⟨p, vs, rfl, by rw [hX.K]; exact SqL.of hp, fun l hl => post_lst hm hq (cutP_rep hr lo hi) hl⟩
  · cases e
    obtain ⟨p, vs, rfl, hp, hr⟩ := trep_tup ha
    refine wSl_of sl_tupA ⟨p, vs, rfl, by rw [hX.K]; exact SqT.of hp, fun hw => ?_, fun _ l hl => post_tup hm hq (cutP_rep hr lo hi) hl⟩
    refine post_stand hm hp ?_ hq
    have e1 : cutV vs lo hi = vs := by
      unfold cutV
      rw [hw.1, hw.2, List.drop_zero, Nat.sub_zero, List.take_length]
    have := cutP_rep hr lo hi
    rw [e1] at this
    exact this
  · split at e <;> cases e
    rename_i z hz
    have ha' : x = .str _ := ha
    exact wSl_of sl_str ⟨z, ha', size_le hz, post_p hm hq rfl⟩
  · cases e
theorem tru_okR (hm : OkM g μ w) {a : P} {k : Bool} (e : truP a = some k) (ha : TRep g w a x) {Qb : Bool → Hp → Prop} (hq : Qb k w.H) : wTru X x w.H Qb := by
  refine wTru_of tru_ok ⟨k, ?_, hq⟩
  cases a <;> simp only [truP] at e <;> simp only [TRep, Rep] at ha
  case non => cases e; subst ha; rfl
  case bl => cases e; subst ha; rfl
  case int => cases e; subst ha; rfl
  case str z =>
    subst ha
    split at e <;> cases e
    rename_i hz
    exact ⟨size_le hz, by rw [Bool.eq_iff_iff]; simp⟩
  case tup ds =>
    cases e
    obtain ⟨p, vs, rfl, hp, hr⟩ := ha
    refine .inr (.inl ⟨vs, by rw [hX.K]; exact SqT.of hp, ?_⟩)
    have := hr.length
    cases ds <;> cases vs <;> simp_all
  case lst ds =>
    cases e
    obtain ⟨p, vs, rfl, hp, hr⟩ := ha
    refine .inl ⟨vs, by rw [hX.K]; exact SqL.of hp, ?_⟩
    have := hr.length
    cases ds <;> cases vs <;> simp_all
  case exc => cases e
end
end R

set_option Elab.async false
set_option linter.all false
set_option maxRecDepth 100000
set_option maxHeartbeats 1000000
/-! # R4: built-in functions and methods -/
namespace R
open PySem L2 PyProof.Rows PySem.W
section
variable {X : Cx}
/-! ### sum, max, min of a tuple of ints -/
def rSumT (K : PySem.W.Frag) : List V → Hp → VK → Prop := fun vs H Q => ∃ (a : Addr) (ns : List Int), vs = [V.ref a] ∧ SqT K H a (ns.map V.int) ∧ Q (.int ns.sum) H
theorem cr_sumT (hc : X.calm = true) : CallR X (.builtin "sum") (rSumT X.K) := by
  intro pins s σ H vs us Q I r h
  obtain ⟨a, ns, rfl, hs, q⟩ := h
  obtain ⟨its, rv, ht, _⟩ := I.tuple hs
  rw [Vals.ref1 r]
  have hi := intsAre_of rv
  obtain ⟨xs, e⟩ := hi.allInts.items
  have hn : numsOf (intItems xs).toList = ns := by rw [← e]; exact hi.numsOf
  rw [nums_intItems] at hn
  rw [e] at ht
  refine PySem.W.ktm_sumG (I.ok.hd hc) ht fun h' tk t' hk => ?_
  rw [preSum_eq, List.take_of_length_le (by simp), hn]
  exact ⟨.int _, H, I.kept hk, ⟨_, rfl⟩, q⟩
theorem maxL_foldl : ∀ (n : Int) (ns : List Int), maxL (n :: ns) = ns.foldl max n
  | _, [] => rfl
  | n, m :: r => by
    show max n (maxL (m :: r)) = _
    rw [maxL_foldl m r, List.foldl_cons]
    clear maxL_foldl
    induction r generalizing n m with
    | nil => rfl
    | cons k r ih =>
      rw [List.foldl_cons, List.foldl_cons, ih n (max m k)]
      congr 1
      omega
theorem minL_foldl : ∀ (n : Int) (ns : List Int), minL (n :: ns) = ns.foldl min n
  | _, [] => rfl
  | n, m :: r => by
    show min n (minL (m :: r)) = _
    rw [minL_foldl m r, List.foldl_cons]
    clear minL_foldl
    induction r generalizing n m with
    | nil => rfl
    | cons k r ih =>
      rw [List.foldl_cons, List.foldl_cons, ih n (min m k)]
      congr 1
      omega
theorem maxL_mem : ∀ (n : Int) (ns : List Int), maxL (n :: ns) ∈ n :: ns
  | n, [] => by simp [maxL]
  | n, m :: r => by
    have h := maxL_mem m r
    show max n (maxL (m :: r)) ∈ _
    by_cases c : n ≤ maxL (m :: r)
    · rw [Int.max_eq_right c]; exact List.mem_cons_of_mem _ h
    · rw [Int.max_eq_left (by omega)]; exact List.mem_cons_self
theorem maxL_le : ∀ (n : Int) (ns : List Int) (x : Int), x ∈ n :: ns → x ≤ maxL (n :: ns)
  | n, [], x, h => by simp at h; subst h; simp [maxL]
  | n, m :: r, x, h => by
    show x ≤ max n (maxL (m :: r))
    rcases List.mem_cons.mp h with e | h
    · omega
    · have := maxL_le m r x h
      omega
theorem minL_mem : ∀ (n : Int) (ns : List Int), minL (n :: ns) ∈ n :: ns
  | n, [] => by simp [minL]
  | n, m :: r => by
    have h := minL_mem m r
    show min n (minL (m :: r)) ∈ _
    by_cases c : n ≤ minL (m :: r)
    · rw [Int.min_eq_left c]; exact List.mem_cons_self
    · rw [Int.min_eq_right (by omega)]; exact List.mem_cons_of_mem _ h
theorem minL_le : ∀ (n : Int) (ns : List Int) (x : Int), x ∈ n :: ns → minL (n :: ns) ≤ x
  | n, [], x, h => by simp at h; subst h; simp [minL]
  | n, m :: r, x, h => by
    show min n (minL (m :: r)) ≤ x
    rcases List.mem_cons.mp h with e | h
    · omega
    · have := minL_le m r x h
      omega
theorem max_is {n : Int} {ns : List Int} {m : Int} (h1 : m ∈ n :: ns) (h2 : ∀ y, y ∈ n :: ns → y ≤ m) : m = maxL (n :: ns) := by
  have a := h2 _ (maxL_mem n ns)
  have b := maxL_le n ns m h1
  omega
theorem min_is {n : Int} {ns : List Int} {m : Int} (h1 : m ∈ n :: ns) (h2 : ∀ y, y ∈ n :: ns → m ≤ y) : m = minL (n :: ns) := by
  have a := h2 _ (minL_mem n ns)
  have b := minL_le n ns m h1
  omega
theorem reads_ints {h : Heap} : ∀ {us : List Value} {ns : List Int}, IntsAre us ns → PySem.ReadsAll h us (ns.map PyData.int) []
  | _, _, .nil => .nil
  | _, _, .cons n t r => PySem.ReadsAll.cons (as := []) (bs := []) (PySem.Reads.int n t) (reads_ints r)
theorem depth_ints : ∀ ns : List Int, PyData.depthAll (ns.map PyData.int) ≤ 1
  | [] => by simp [PyData.depthAll]
  | n :: ns => by
    have := depth_ints ns
    simp only [List.map_cons, PyData.depthAll, PyData.depth]
    omega
theorem alike_ints (ns : List Int) : AlikeAll (ns.map PyData.int) := by
  refine ⟨fun x hx y hy => ?_, fun x hx => ?_⟩
  · obtain ⟨i, _, rfl⟩ := List.mem_map.mp hx
    obtain ⟨j, _, rfl⟩ := List.mem_map.mp hy
    rfl
  · obtain ⟨i, _, rfl⟩ := List.mem_map.mp hx
    intro e
    cases e
def rMaxT (K : PySem.W.Frag) : List V → Hp → VK → Prop := fun vs H Q => ∃ (a : Addr) (n : Int) (ns : List Int), vs = [V.ref a] ∧ SqT K H a ((n :: ns).map V.int) ∧ Q (.int (maxL (n :: ns))) H
def rMinT (K : PySem.W.Frag) : List V → Hp → VK → Prop := fun vs H Q => ∃ (a : Addr) (n : Int) (ns : List Int), vs = [V.ref a] ∧ SqT K H a ((n :: ns).map V.int) ∧ Q (.int (minL (n :: ns))) H
theorem read_int {h : Heap} {v : Value} {n : Int} {bs : List Addr} (r : PySem.Reads h v (.int n) bs) : ∃ t, v = .int n t := by
  cases r with
  | int i t => exact ⟨t, rfl⟩
theorem cr_maxT (hc : X.calm = true) (hu : X.A.units + 10 < cLine) : CallR X (.builtin "max") (rMaxT X.K) := by
  intro pins s σ H vs us Q I r h
  obtain ⟨a, n, ns, rfl, hs, q⟩ := h
  obtain ⟨its, rv, ht, _⟩ := I.tuple hs
  rw [Vals.ref1 r]
  have hi := intsAre_of rv
  refine max_tuple_data (x := .int n) (xs := ns.map .int) (I.ok.hd hc) ht (reads_ints hi) (alike_ints (n :: ns)) (by have := depth_ints (n :: ns); simp only [List.map_cons] at this; omega) fun i v h' tk bs hv hr hk => ?_
  rw [maxD_ints] at hr
  obtain ⟨t, rfl⟩ := read_int hr
  refine ⟨.int _, H, I.kept hk, ⟨_, rfl⟩, ?_⟩
  rw [← maxL_foldl]
  exact q
theorem cr_minT (hc : X.calm = true) (hu : X.A.units + 10 < cLine) : CallR X (.builtin "min") (rMinT X.K) := by
  intro pins s σ H vs us Q I r h
  obtain ⟨a, n, ns, rfl, hs, q⟩ := h
  obtain ⟨its, rv, ht, _⟩ := I.tuple hs
  rw [Vals.ref1 r]
  have hi := intsAre_of rv
  refine min_tuple_data (x := .int n) (xs := ns.map .int) (I.ok.hd hc) ht (reads_ints hi) (alike_ints (n :: ns)) (by have := depth_ints (n :: ns); simp only [List.map_cons] at this; omega) fun i v h' tk bs hv hr hk => ?_
  rw [minD_ints] at hr
  obtain ⟨t, rfl⟩ := read_int hr
  refine ⟨.int _, H, I.kept hk, ⟨_, rfl⟩, ?_⟩
  rw [← minL_foldl]
  exact q
end
/-- the function that a built-in's name holds -/
def fnB : Bi → Value
  | .len => .builtin "len" | .sum => .builtin "sum" | .max1 => .builtin "max" | .min1 => .builtin "min" | .max2 => .builtin "max" | .min2 => .builtin "min"
  | .all => .builtin "all" | .any => .builtin "any" | .abs => .builtin "abs" | .list => .type "list" | .tuple => .type "tuple" | .str => .type "str" | .int => .type "int"
  | .srt => .builtin "sorted" | .sset => .none | .isi _ => .none
section
variable {g : Gx} {scr : List Int} {w : Wd} {μ : Mu} {Q : VK} {X : Cx} (hX : XOk g X) {x y : V}
include hX
theorem bi_ok (hm : OkM g μ w) {b : Bi} {a : P} {r : Rv} (hb : fnB b ≠ .none) (e : biP b [a] = some r) (ha : TRep g w a x) (hq : OpPost g scr w μ Q r) : wCall X (fnB b) [x] w.H Q := by
  have hc := hX.calm
  have hu : X.A.units + 10 < cLine := by have := hX.un; omega
  unfold biP at e
  split at e
  -- len
  · rename_i h
    cases h
    cases e
    obtain ⟨p, vs, rfl, hp, hr⟩ := trep_lst ha
    refine wCall_of call_len_seq ⟨p, vs, rfl, .inl (SqL.of hp), ?_⟩
    rw [hr.length]
    exact post_p hm hq rfl
  · rename_i h
    cases h
    cases e
    obtain ⟨p, vs, rfl, hp, hr⟩ := trep_tup ha
    refine wCall_of call_len_seq ⟨p, vs, rfl, .inr (SqT.of hp), ?_⟩
    rw [hr.length]
    exact post_p hm hq rfl
  · rename_i h
    cases h
    split at e <;> cases e
    rename_i z hz
    have ha' : x = .str _ := ha
    subst ha'
    exact wCall_of call_len_str ⟨z, rfl, size_le hz, post_p hm hq rfl⟩
  -- sum
  · rename_i xs h
    cases h
    cases q : intsOf xs with
    | none => rw [q] at e; cases e
    | some ns =>
      rw [q] at e
      cases e
      obtain ⟨p, vs, rfl, hp, hr⟩ := trep_lst ha
      have e1 := hr.ints q
      subst e1
      exact wCall_of (cr_sum hc) ⟨p, ns, rfl, SqL.of hp, post_p hm hq rfl⟩
  · rename_i xs h
    cases h
    cases q : intsOf xs with
    | none => rw [q] at e; cases e
    | some ns =>
      rw [q] at e
      cases e
      obtain ⟨p, vs, rfl, hp, hr⟩ := trep_tup ha
      have e1 := hr.ints q
      subst e1
      exact wCall_of (cr_sumT hc) ⟨p, ns, rfl, SqT.of hp, post_p hm hq rfl⟩
  -- max1
  · rename_i xs h
    cases h
    split at e <;> cases e
    rename_i n ns q
    obtain ⟨p, vs, rfl, hp, hr⟩ := trep_lst ha
    have e1 := hr.ints q
    subst e1
    exact wCall_of (cr_max hc) ⟨p, n :: ns, rfl, SqL.of hp, by simp, fun m h1 h2 => by rw [max_is h1 h2]; exact post_p hm hq rfl⟩
  · rename_i xs h
    cases h
    split at e <;> cases e
    rename_i n ns q
    obtain ⟨p, vs, rfl, hp, hr⟩ := trep_tup ha
    have e1 := hr.ints q
    subst e1
    exact wCall_of (cr_maxT hc hu) ⟨p, n, ns, rfl, SqT.of hp, post_p hm hq rfl⟩
  · rename_i xs h
    cases h
    split at e <;> cases e
    rename_i n ns q
    obtain ⟨p, vs, rfl, hp, hr⟩ := trep_lst ha
    have e1 := hr.ints q
    subst e1
    exact wCall_of (cr_min hc) ⟨p, n :: ns, rfl, SqL.of hp, by simp, fun m h1 h2 => by rw [min_is h1 h2]; exact post_p hm hq rfl⟩
  · rename_i xs h
    cases h
    split at e <;> cases e
    rename_i n ns q
    obtain ⟨p, vs, rfl, hp, hr⟩ := trep_tup ha
    have e1 := hr.ints q
    subst e1
    exact wCall_of (cr_minT hc hu) ⟨p, n, ns, rfl, SqT.of hp, post_p hm hq rfl⟩
  -- max2, min2
  · rename_i h; cases h
  · rename_i h; cases h
  -- all, any
  · rename_i xs h
    cases h
    cases q : blsOf xs with
    | none => rw [q] at e; cases e
    | some ns =>
      rw [q] at e
      cases e
      obtain ⟨p, vs, rfl, hp, hr⟩ := trep_lst ha
      have e1 := hr.bls q
      subst e1
      exact wCall_of (cr_all hc) ⟨p, ns, rfl, SqL.of hp, post_p hm hq rfl⟩
  · rename_i xs h
    cases h
    cases q : blsOf xs with
    | none => rw [q] at e; cases e
    | some ns =>
      rw [q] at e
      cases e
      obtain ⟨p, vs, rfl, hp, hr⟩ := trep_lst ha
      have e1 := hr.bls q
      subst e1
      exact wCall_of (cr_any hc) ⟨p, ns, rfl, SqL.of hp, post_p hm hq rfl⟩
  -- abs
  · rename_i h
    cases h
    cases e
    have ha' : x = .int _ := ha
    subst ha'
    exact wCall_of call_abs ⟨_, rfl, post_p hm hq rfl⟩
  -- list
  · rename_i xs h
    cases h
    cases e
    obtain ⟨p, vs, rfl, hp, hr⟩ := trep_lst ha
    exact wCall_of call_list_of ⟨p, vs, rfl, .inl (SqL.of hp), fun l hl => post_lst hm hq hr hl⟩
  · rename_i xs h
    cases h
    cases e
    obtain ⟨p, vs, rfl, hp, hr⟩ := trep_tup ha
    exact wCall_of call_list_of ⟨p, vs, rfl, .inr (SqT.of hp), fun l hl => post_lst hm hq hr hl⟩
  -- tuple
  · rename_i xs h
    cases h
    cases e
    obtain ⟨p, vs, rfl, hp, hr⟩ := trep_lst ha
    exact wCall_of call_tuple_of ⟨p, vs, rfl, .inl ⟨SqL.of hp, fun l hl => post_tup hm hq hr hl⟩⟩
  · rename_i xs h
    cases h
    cases e
    obtain ⟨p, vs, rfl, hp, hr⟩ := trep_tup ha
    exact wCall_of call_tuple_of ⟨p, vs, rfl, .inr ⟨SqT.of hp, post_stand hm hp hr hq⟩⟩
  -- str
  · rename_i h
    cases h
    split at e <;> cases e
    rename_i i hz
    have ha' : x = .int _ := ha
    subst ha'
    exact wCall_of call_str_int ⟨i, rfl, hz, post_p hm hq rfl⟩
  -- int
  · rename_i h
    cases h
    cases e
    have ha' : x = .int _ := ha
    subst ha'
    exact wCall_of call_int1 (.inl ⟨_, rfl, post_p hm hq rfl⟩)
  · rename_i h
    cases h
    cases e
    have ha' : x = .bl _ := ha
    subst ha'
    exact wCall_of call_int1 (.inr ⟨_, rfl, post_p hm hq rfl⟩)
  · rename_i z h
    cases h
    split at e
    · rename_i hz
      cases q : PySem.intText? z with
      | none => rw [q] at e; cases e
      | some n =>
        rw [q] at e
        cases e
        have ha' : x = .str _ := ha
        subst ha'
        exact wCall_of call_int_str ⟨z, n, rfl, q, hz, post_p hm hq rfl⟩
    · cases e
  -- isinstance: elsewhere
  · exact absurd rfl hb
  · cases e
theorem bi2_ok (hm : OkM g μ w) {b : Bi} {i j : Int} {r : Rv} (e : biP b [.int i, .int j] = some r) (hq : OpPost g scr w μ Q r) : wCall X (fnB b) [.int i, .int j] w.H Q := by
  have hc := hX.calm
  cases b <;> simp only [biP] at e <;> try (cases e; done)
  · cases e
    exact wCall_of (call_max2 hc) ⟨i, j, rfl, post_p hm hq rfl⟩
  · cases e
    exact wCall_of (call_min2 hc) ⟨i, j, rfl, post_p hm hq rfl⟩
/-- isinstance(e, C), C a built-in class -/
theorem isi_ok (hm : OkM g μ w) {c : String} {a : P} {k : Bool} (e : isiP (Str.ofString c) a = some k) (hcn : c = "int" ∨ c = "bool" ∨ c = "tuple" ∨ c = "list") (ha : TRep g w a x) (hq : OpPost g scr w μ Q (.p (.bl k))) :
    wCall X (.builtin "isinstance") [x, .ty c] w.H Q := by
  have key : ∀ T : String, TyOf X.K w.H x (.type T) → kitB T c = some k → wCall X (.builtin "isinstance") [x, .ty c] w.H Q := fun T hT hk =>
    wCall_of call_isi ⟨x, .ty c, .type T, .type c, k, rfl, .ty c, .base hT, kit_ty hk, post_p hm hq rfl⟩
  have n1 : ¬ ((Str.ofString "bool") = ("int" : Str)) := by decide +kernel
  have n2 : ¬ ((Str.ofString "tuple") = ("int" : Str)) := by decide +kernel
  have n3 : ¬ ((Str.ofString "tuple") = ("bool" : Str)) := by decide +kernel
  have n4 : ¬ ((Str.ofString "list") = ("int" : Str)) := by decide +kernel
  have n5 : ¬ ((Str.ofString "list") = ("bool" : Str)) := by decide +kernel
  have n6 : ¬ ((Str.ofString "list") = ("tuple" : Str)) := by decide +kernel
  cases a <;> simp only [TRep, Rep] at ha
  case non =>
    subst ha
    refine key "NoneType" .non ?_
    rcases hcn with rfl | rfl | rfl | rfl <;> simp only [isiP, n1, n2, n3, n4, n5, n6, if_true, if_false] at e <;> cases e <;> decide +kernel
  case bl b =>
    subst ha
    refine key "bool" (.bl b) ?_
    rcases hcn with rfl | rfl | rfl | rfl <;> simp only [isiP, n1, n2, n3, n4, n5, n6, if_true, if_false] at e <;> cases e <;> decide +kernel
  case int i =>
    subst ha
    refine key "int" (.int i) ?_
    rcases hcn with rfl | rfl | rfl | rfl <;> simp only [isiP, n1, n2, n3, n4, n5, n6, if_true, if_false] at e <;> cases e <;> decide +kernel
  case str z =>
    subst ha
    refine key "str" (.str z) ?_
    rcases hcn with rfl | rfl | rfl | rfl <;> simp only [isiP, n1, n2, n3, n4, n5, n6, if_true, if_false] at e <;> cases e <;> decide +kernel
  case tup ds =>
    obtain ⟨p, vs, rfl, hp, hr⟩ := ha
    refine key "tuple" (.tup hp) ?_
    rcases hcn with rfl | rfl | rfl | rfl <;> simp only [isiP, n1, n2, n3, n4, n5, n6, if_true, if_false] at e <;> cases e <;> decide +kernel
  case lst ds =>
    obtain ⟨p, vs, rfl, hp, hr⟩ := ha
    refine key "list" (.lst hp) ?_
    rcases hcn with rfl | rfl | rfl | rfl <;> simp only [isiP, n1, n2, n3, n4, n5, n6, if_true, if_false] at e <;> cases e <;> decide +kernel
  case exc n =>
    rcases hcn with rfl | rfl | rfl | rfl <;> simp only [isiP, n1, n2, n3, n4, n5, n6, if_true, if_false] at e <;> cases e
/-! ### methods of texts -/
def idM : Me → String
  | .split => "str.split" | .join => "str.join" | .endsw => "str.endswith"
theorem me_ok (hm : OkM g μ w) {m : Me} {o a : P} {r : Rv} (e : meP m o [a] = some r) (ho : TRep g w o x) (ha : TRep g w a y) (hq : OpPost g scr w μ Q r) : (∃ z, x = .str z) ∧ wMt X (idM m) x [y] w.H Q := by
  unfold meP at e
  split at e
  · rename_i h
    cases h
    split at e <;> cases e
    rename_i z z' hz
    have ho' : x = .str _ := ho
    have ha' : y = .str _ := ha
    subst ho' ha'
    refine ⟨⟨_, rfl⟩, wMt_of mt_split ⟨z, z', rfl, rfl, hz.1, size_le hz.2, fun l hl => ?_⟩⟩
    exact post_lst hm hq (Reps.of_strs _) hl
  · rename_i h
    cases h
    split at e
    · rename_i ys q
      split at e <;> cases e
      rename_i hz
      have ho' : x = .str _ := ho
      obtain ⟨p, vs, rfl, hp, hr⟩ := trep_lst ha
      have e1 := hr.strs q
      subst e1 ho'
      refine ⟨⟨_, rfl⟩, wMt_of mt_join ⟨_, p, ys, rfl, rfl, .inl (SqL.of hp), ?_, post_p hm hq rfl⟩⟩
      rw [Nat.mul_comm]
      exact Nat.le_trans hz (by decide)
    · cases e
  · rename_i h
    cases h
    cases e
    have ho' : x = .str _ := ho
    have ha' : y = .str _ := ha
    subst ho' ha'
    exact ⟨⟨_, rfl⟩, wMt_of mt_endswith ⟨_, _, rfl, rfl, post_p hm hq rfl⟩⟩
  · cases e
end
end R

set_option Elab.async false
set_option linter.all false
set_option maxRecDepth 100000
set_option maxHeartbeats 1000000
/-! # R5: what the language says of an expression is what the model does: frames, ends, the single constructs -/
namespace R
open PySem L2 PyProof.Rows
/-! ### the model's runs, as readings -/
section
variable (X : Cx)
def wE (e : Expr) : TE := fun σ H Q => ∀ (pins : List (Addr × Obj)) (s : Shared), Inv X pins σ H s → wpAny (model X.prog X.w) X.A (eval e X.env) (EP X pins σ Q) X.xe s
def wT (e : Expr) : TT := fun σ H Q => ∀ (pins : List (Addr × Obj)) (s : Shared), Inv X pins σ H s → wpAny (model X.prog X.w) X.A (isTrue e X.env (eval e X.env)) (TP X pins σ Q) X.xe s
def wW (e : Expr) : TT := fun σ H Q => ∀ (whole : Sem Value) (pins : List (Addr × Obj)) (s : Shared), Inv X pins σ H s → wpAny (model X.prog X.w) X.A (isTrue e X.env whole) (TP X pins σ Q) X.xe s
def wA (es : List Expr) : TA := fun σ H Q => ∀ (pos : Pos) (pins : List (Addr × Obj)) (s : Shared), Inv X pins σ H s → wpAny (model X.prog X.w) X.A (spliced (backTo pos (starEach es X.env))) (AP X pins σ Q) X.xe s
def wO (e : Option Expr) : TO := fun σ H Q => ∀ (pins : List (Addr × Obj)) (s : Shared), Inv X pins σ H s → wpAny (model X.prog X.w) X.A (evalPart e X.env) (fun u s' => ∃ o H', Inv X pins σ H' s' ∧ IsPart u o ∧ Q o H') X.xe s
end
section
variable {X : Cx} {e : Expr} {es : List Expr} {σ : L2.St} {H : Hp}
theorem pe_w : PE X e (wE X e) := ⟨fun pins s σ H Q I h => h pins s I⟩
theorem pt_w : PT X e (wT X e) := ⟨fun pins s σ H Q I h => h pins s I⟩
theorem pw_w : PW X e (wW X e) := ⟨fun whole pins s σ H Q I h => h whole pins s I⟩
theorem pa_w : PA X es (wA X es) := ⟨fun pos pins s σ H Q I h => h pos pins s I⟩
theorem po_w {e : Option Expr} : PO X e (wO X e) := ⟨fun pins s σ H Q I h => h pins s I⟩
theorem wE_of {te : TE} {Q : VK} (h : PE X e te) (q : te σ H Q) : wE X e σ H Q := fun pins s I => h.run pins s σ H Q I q
theorem wT_of {tt : TT} {Q : Bool → Hp → Prop} (h : PT X e tt) (q : tt σ H Q) : wT X e σ H Q := fun pins s I => h.run pins s σ H Q I q
theorem wW_of {tt : TT} {Q : Bool → Hp → Prop} (h : PW X e tt) (q : tt σ H Q) : wW X e σ H Q := fun whole pins s I => h.run whole pins s σ H Q I q
theorem wT_of_W {Q : Bool → Hp → Prop} (h : wW X e σ H Q) : wT X e σ H Q := fun pins s I => h _ pins s I
theorem wA_of {ta : TA} {Q : List V → Hp → Prop} (h : PA X es ta) (q : ta σ H Q) : wA X es σ H Q := fun pos pins s I => h.run pos pins s σ H Q I q
theorem wO_of {e : Option Expr} {to : TO} {Q : Option Int → Hp → Prop} (h : PO X e to) (q : to σ H Q) : wO X e σ H Q := fun pins s I => h.run pins s σ H Q I q
theorem wE_mono {Q Q' : VK} (h : wE X e σ H Q) (k : ∀ v H', Q v H' → Q' v H') : wE X e σ H Q' := fun pins s I => thn (h pins s I) fun u s' ⟨v, H', J, r, q⟩ => ⟨v, H', J, r, k v H' q⟩
/-- a value as a test, by its truth -/
theorem wT_tru {Q : Bool → Hp → Prop} (he : ∀ whole, isTrue e X.env whole = (do let v ← whole; standAt e.pos; holding [v] (truthy v))) (h : wE X e σ H fun x H1 => wTru X x H1 Q) : wT X e σ H Q := fun pins s I =>
  isTrue_plain (thn (h pins s I) fun v s1 ⟨x, H1, I1, r1, q1⟩ => q1 pins s1 σ v I1 r1) (he _)
/-- a truth as a test -/
theorem wT_bl {Q : Bool → Hp → Prop} (he : ∀ whole, isTrue e X.env whole = (do let v ← whole; standAt e.pos; holding [v] (truthy v))) (h : wE X e σ H fun x H1 => ∃ b, x = .bl b ∧ Q b H1) : wT X e σ H Q :=
  wT_of (pt_val pe_w he) h
end
/-- as a test or as a value -/
def wEt (X : Cx) (t : Bool) (e : Expr) : TE := fun σ H Q => if t = true then wT X e σ H (fun b H' => Q (.bl b) H') else wE X e σ H Q
/-! ### ends -/
def Post (g : Gx) (scr : List Int) (w : Wd) (Ek : XK) (Q : VK) : Out Rv → Prop
  | .bad => False
  | .ok r μ => ∀ w' v, Grow w w' → OkM g μ w' → RRep g scr w' r v → Fresh w r v → Q v w'.H
  | .exc n μ => ∀ w' C, Grow w w' → OkM g μ w' → g.mg n = some (.ref C) → Ek (.ref C) none w'.H
structure FinOk (g : Gx) (Ek : XK) {β : Type} (Fin : Wd → Out β → Prop) : Prop where
  bad : ∀ w, ¬ Fin w .bad
  exc : ∀ w n μ, Fin w (.exc n μ) → ∀ w' C, Grow w w' → OkM g μ w' → g.mg n = some (.ref C) → Ek (.ref C) none w'.H
  grow : ∀ w w' r, Grow w w' → Fin w r → Fin w' r
theorem Fresh.back {w w' : Wd} (gr : Grow w w') {r : Rv} {v : V} (h : Fresh w' r v) : Fresh w r v := by
  cases r <;> try exact trivial
  exact fun p e => gr.mon p (h p e)
theorem post_fin (g : Gx) (scr : List Int) (Ek : XK) (Q : VK) : FinOk g Ek (fun w r => Post g scr w Ek Q r) where
  bad := fun _ h => h
  exc := fun _ _ _ h => h
  grow := fun w w' r gr h => by
    cases r with
    | bad => exact h
    | ok r μ => exact fun w2 v g2 m rr f => h w2 v (gr.trans g2) m rr (f.back gr)
    | exc n μ => exact fun w2 C g2 m e => h w2 C (gr.trans g2) m e
/-! ### frames -/
structure FrI where
  N : List Str
  sc : Scope
  blk : Bool
  fnl : Str → Bool
structure Nm where
  fns : List (Str × Nat)
  gl : List (Str × P)
  exs : List Str
def bnames : List Str := ["len", "sum", "max", "min", "all", "any", "abs", "list", "tuple", "str", "int", "bool", "range", "sorted", "set", "isinstance"]
structure FrOk (g : Gx) (k : Nat) (fr : FrI) (X : Cx) : Prop where
  x : XOk g X
  hN : X.N = fr.N
  nd : fr.N.Nodup
  sc : X.env.scope = fr.sc
  fn : X.fn = fr.fnl
  room : Room k X.A
  stk : fr.blk = false → X.stack = X.env :: X.outer ∧ X.env.frame = some X.env.locals
def RReps (g : Gx) (scr : List Int) (w : Wd) : List Rv → List V → Prop
  | [], vs => vs = []
  | r :: rs, vs => ∃ v us, vs = v :: us ∧ notN r ∧ RPer g scr w r v ∧ RReps g scr w rs us
theorem RReps.grow {g : Gx} {scr : List Int} {w w' : Wd} (gr : Grow w w') : ∀ {rs : List Rv} {vs : List V}, RReps g scr w rs vs → RReps g scr w' rs vs
  | [], _, h => h
  | r :: rs, _, h => by
    obtain ⟨v, us, rfl, n, h1, h2⟩ := h
    exact ⟨v, us, rfl, n, h1.grow gr, RReps.grow gr h2⟩
theorem RReps.length {g : Gx} {scr : List Int} {w : Wd} : ∀ {rs : List Rv} {vs : List V}, RReps g scr w rs vs → vs.length = rs.length
  | [], _, h => by rw [h]; rfl
  | r :: rs, _, h => by
    obtain ⟨v, us, rfl, _, _, h2⟩ := h
    rw [List.length_cons, List.length_cons, RReps.length h2]
/-- a def's promise: what the language says of it -/
def spOf (g : Gx) (cl : Cl) (n i : Nat) : Sp := fun vs H Q Ek => vs.length = n ∧ ∃ (rs : List Rv) (μ : Mu) (w : Wd), w.H = H ∧ OkM g μ w ∧ RReps g cl.scr w rs vs ∧ Post g cl.scr w Ek Q (cl.fn i rs μ)
abbrev bmV : List Value := [.type "ValueError", .type "Exception", .type "BaseException", .type "object"]
abbrev newV : String := "ValueError.__new__"
structure Facts (g : Gx) (k : Nat) (cl : Cl) (nm : Nm) : Prop where
  gl : ∀ x d, nm.gl.lookup x = some d → ∃ u v, g.mg x = some u ∧ RelV v u ∧ ∀ H, Rep g H d v
  bn : ∀ x, x ∈ bnames → g.mg x = none
  fns : ∀ (i : Nat) x n, nm.fns[i]? = some (x, n) → ∃ (fa : Addr) (fd : FuncData) (ps : List Str), g.mg x = some (.ref fa) ∧ PySem.W.keepIn g.K (.ref fa) = true ∧ Binds g.K fd ps [] ∧ FnOk g.prog g.wd g.K g.mg g.base (L2.CX g.prog g.wd) k fa fd ps (spOf g cl n i)
  exs : ∀ x, x ∈ nm.exs → ∃ C, g.mg x = some (.ref C) ∧ PySem.W.keepIn g.K (.ref C) = true ∧ PySem.W.excIn g.K C bmV newV = true ∧ PySem.W.subIn g.K (.ref C) (.type "BaseException") = some true ∧ PySem.W.typeIn g.K (.ref C) = some (.type "type")
  sub : ∀ n c b, cl.sub n c = some b → ∀ C Cc, g.mg n = some (.ref C) → g.mg c = some (.ref Cc) → PySem.W.exmOne g.K (.ref C) (.ref Cc) = some b
  isx : ∀ n c b, cl.isx n c = some b → ∀ C, g.mg n = some (.ref C) → L2.ExcC g.K C ∧ ∃ cv, PySem.W.kitOne g.K (.ref C) cv = some b ∧ ((∃ Cc, cv = .ref Cc ∧ g.mg c = some cv) ∨ (cv = .type "ValueError" ∧ c = ("ValueError" : Str) ∧ g.mg c = none))
def TakesAt (X : Cx) (W : WX) : Prop := ∀ σ, PassesAt (L2.CX X.prog X.w) X σ (WE W σ)
structure EnvOk (g : Gx) (scr : List Int) (w : Wd) (ρ : Env) (σ : L2.St) : Prop where
  len : ρ.length = σ.length
  get : ∀ (i : Nat) (r : Rv), ρ[i]? = some (some r) → notN r ∧ ∃ v, σ[i]? = some (some v) ∧ RPer g scr w r v
theorem EnvOk.grow {g : Gx} {scr : List Int} {w w' : Wd} {ρ : Env} {σ : L2.St} (gr : Grow w w') (h : EnvOk g scr w ρ σ) : EnvOk g scr w' ρ σ := ⟨h.len, fun i r e => by
  obtain ⟨n, v, e1, h1⟩ := h.get i r e
  exact ⟨n, v, e1, h1.grow gr⟩⟩
/-- THE SENTENCE about an expression -/
def SE (g : Gx) (k : Nat) (cl : Cl) (fr : FrI) (a : Expr) (e : E) : Prop :=
  ∀ X, FrOk g k fr X → ∀ W, TakesAt X W → ∀ (t : Bool) (ρ : Env) (μ : Mu) (w : Wd) (σ : L2.St) (Q : VK), OkM g μ w → EnvOk g cl.scr w ρ σ → Post g cl.scr w (WE W σ) Q (evE cl e t ρ μ) → wEt X t a σ w.H Q
section
variable {g : Gx} {k : Nat} {cl : Cl} {fr : FrI} {nm : Nm}
/-- an expression, then what follows -/
theorem SE.bind {a : Expr} {e : E} (ih : SE g k cl fr a e) {X : Cx} (hf : FrOk g k fr X) {W : WX} (hW : TakesAt X W) {ρ : Env} {μ : Mu} {w : Wd} {σ : L2.St} (hm : OkM g μ w) (hρ : EnvOk g cl.scr w ρ σ) {β : Type} {Fin : Wd → Out β → Prop} (hF : FinOk g (WE W σ) Fin) {F : Rv → Mu → Out β}
    (h : Fin w ((evE cl e false ρ μ).bind F)) {Q : VK} (kq : ∀ r μ1 w1 v, evE cl e false ρ μ = .ok r μ1 → Grow w w1 → OkM g μ1 w1 → RRep g cl.scr w1 r v → Fresh w r v → EnvOk g cl.scr w1 ρ σ → Fin w1 (F r μ1) → Q v w1.H) : wE X a σ w.H Q := by
  have := ih X hf W hW false ρ μ w σ Q hm hρ ?_
  · exact this
  · cases q : evE cl e false ρ μ with
    | bad => rw [q] at h; exact hF.bad w h
    | exc n μ1 => rw [q] at h; exact hF.exc w n μ1 h
    | ok r μ1 =>
      rw [q] at h
      exact fun w1 v gr m rr fr => kq r μ1 w1 v q gr m rr fr (hρ.grow gr) (hF.grow w w1 _ gr h)
/-- a test, then what follows -/
theorem SE.bindT {a : Expr} {e : E} (ih : SE g k cl fr a e) {X : Cx} (hf : FrOk g k fr X) {W : WX} (hW : TakesAt X W) {ρ : Env} {μ : Mu} {w : Wd} {σ : L2.St} (hm : OkM g μ w) (hρ : EnvOk g cl.scr w ρ σ) {β : Type} {Fin : Wd → Out β → Prop} (hF : FinOk g (WE W σ) Fin) {F : Rv → Mu → Out β}
    (h : Fin w ((evE cl e true ρ μ).bind F)) {Q : Bool → Hp → Prop} (kq : ∀ r μ1 w1 b, evE cl e true ρ μ = .ok r μ1 → Grow w w1 → OkM g μ1 w1 → RRep g cl.scr w1 r (.bl b) → EnvOk g cl.scr w1 ρ σ → Fin w1 (F r μ1) → Q b w1.H) : wT X a σ w.H Q := by
  have := ih X hf W hW true ρ μ w σ (fun v H' => ∀ b, v = .bl b → Q b H') hm hρ ?_
  · have z : wT X a σ w.H (fun b H' => ∀ b', V.bl b = .bl b' → Q b' H') := this
    exact fun pins s I => thn (z pins s I) fun u s' ⟨H', J, q⟩ => ⟨H', J, q _ rfl⟩
  · cases q : evE cl e true ρ μ with
    | bad => rw [q] at h; exact (hF.bad w h).elim
    | exc n μ1 => rw [q] at h; exact hF.exc w n μ1 h
    | ok r μ1 =>
      rw [q] at h
      exact fun w1 v gr m rr fr b e => kq r μ1 w1 b q gr m (by rw [← e]; exact rr) (hρ.grow gr) (hF.grow w w1 _ gr h)
theorem rrep_bl {w : Wd} {r : Rv} {b b' : Bool} {scr : List Int} (h : RRep g scr w r (.bl b)) (e : r = .p (.bl b')) : b' = b := by
  subst e
  have h' : V.bl b = .bl b' := h
  cases h'
  rfl
theorem opPost {scr : List Int} {w : Wd} {μ : Mu} {Ek : XK} {Q : VK} {r : Rv} (h : Post g scr w Ek Q (.ok r μ)) : OpPost g scr w μ Q r := h
theorem ofPost {scr : List Int} {w : Wd} {μ : Mu} {Ek : XK} {Q : VK} {x : Option Rv} (h : Post g scr w Ek Q (Out.of x μ)) : ∃ r, x = some r ∧ OpPost g scr w μ Q r := by
  cases x with
  | none => exact False.elim h
  | some r => exact ⟨r, rfl, h⟩
/-! ### the constructs, one by one -/
/-- a value, whose truth may be asked -/
theorem tru_any {X : Cx} (hf : FrOk g k fr X) {μ : Mu} {w : Wd} {r : Rv} {v : V} (hm : OkM g μ w) (hr : RPer g cl.scr w r v) {b : Bool} (e : truR r μ cl.scr = some b) {Qb : Bool → Hp → Prop} (hq : Qb b w.H) : wTru X v w.H Qb := by
  cases r with
  | scr =>
    cases e
    obtain ⟨a, rfl, h⟩ := hr
    refine wTru_of tru_ok ⟨_, .inl ⟨cl.scr.map V.int, ?_, rfl⟩, ?_⟩
    · rw [hf.x.K]
      exact Evl.ex_l hm.sub h
    · have : (!(List.map V.int cl.scr).isEmpty) = !cl.scr.isEmpty := by cases cl.scr <;> rfl
      rw [this]
      exact hq
  | p d =>
    simp only [truR, asP] at e
    exact tru_okR hf.x hm e (TRep.of hm hr) hq
  | o j =>
    simp only [truR] at e
    cases q : asP (.o j) μ with
    | none => rw [q] at e; cases e
    | some d =>
      rw [q] at e
      exact tru_okR hf.x hm e (asP_rep hm hr q) hq
  | n ds =>
    simp only [truR, asP] at e
    exact tru_okR hf.x hm e (asP_rep (scr := cl.scr) (d := .lst ds) hm hr rfl) hq
/-- what is a plain value as a test: its truth -/
def TruE (a : Expr) : Prop := ∀ (env : PySem.Env) (whole : Sem Value), isTrue a env whole = (do let v ← whole; standAt a.pos; holding [v] (truthy v))
/-- from the values alone: the value's sentence serves the test -/
theorem retT_ok {X : Cx} (hf : FrOk g k fr X) {a : Expr} (ht : TruE a) {t : Bool} {r : Rv} {μ : Mu} {w0 : Wd} {σ : L2.St} {Ek : XK} {Q : VK} (hp : Post g cl.scr w0 Ek Q (retT cl.scr t r μ)) :
    ∃ Q' : VK, (∀ H, wE X a σ H Q' → wEt X t a σ H Q) ∧ ∀ w' v, Grow w0 w' → OkM g μ w' → RRep g cl.scr w' r v → Fresh w0 r v → Q' v w'.H := by
  cases t with
  | false => exact ⟨Q, fun _ h => h, hp⟩
  | true =>
    simp only [retT, if_true] at hp
    cases q : truR r μ cl.scr with
    | none => rw [q] at hp; exact hp.elim
    | some b =>
      rw [q] at hp
      refine ⟨fun v H' => wTru X v H' fun b H2 => Q (.bl b) H2, fun H h => wT_tru (ht _) h, fun w' v gr m rr _ => ?_⟩
      exact tru_any hf m rr.per q (hp w' (.bl b) gr m rfl trivial)
theorem retB_ok {X : Cx} (hf : FrOk g k fr X) {a : Expr} (ht : TruE a) {t : Bool} {r : Rv} {μ : Mu} {w0 : Wd} {σ : L2.St} {Ek : XK} {Q : VK} (hp : Post g cl.scr w0 Ek Q (retB t r μ)) :
    ∃ Q' : VK, (∀ H, wE X a σ H Q' → wEt X t a σ H Q) ∧ ∀ w' v, Grow w0 w' → OkM g μ w' → RRep g cl.scr w' r v → Fresh w0 r v → Q' v w'.H := by
  cases t with
  | false => exact ⟨Q, fun _ h => h, hp⟩
  | true =>
    simp only [retB, if_true] at hp
    split at hp
    · rename_i b
      refine ⟨fun v H' => ∃ b, v = .bl b ∧ Q (.bl b) H', fun H h => wT_bl (ht _) h, fun w' v gr m rr f => ?_⟩
      have e : v = .bl b := rr
      exact ⟨b, e, hp w' (.bl b) gr m rfl trivial⟩
    · exact hp.elim
theorem onP_ok {scr : List Int} {w : Wd} {μ : Mu} {Ek : XK} {Q : VK} {x : Rv} {f : P → Out Rv} (h : Post g scr w Ek Q (onP x μ f)) : ∃ d, asP x μ = some d ∧ Post g scr w Ek Q (f d) := by
  unfold onP at h
  split at h
  · rename_i d e
    exact ⟨d, e, h⟩
  · exact h.elim
theorem onP_fin {Ek : XK} {β : Type} {Fin : Wd → Out β → Prop} (hF : FinOk g Ek Fin) {w : Wd} {μ : Mu} {x : Rv} {f : P → Out β} (h : Fin w (onP x μ f)) : ∃ d, asP x μ = some d ∧ Fin w (f d) := by
  unfold onP at h
  split at h
  · rename_i d e
    exact ⟨d, e, h⟩
  · exact (hF.bad _ h).elim
theorem intR_fin {Ek : XK} {β : Type} {Fin : Wd → Out β → Prop} (hF : FinOk g Ek Fin) {w : Wd} {x : Rv} {f : Int → Out β} (h : Fin w (intR x f)) : ∃ i, x = .p (.int i) ∧ Fin w (f i) := by
  unfold intR at h
  split at h
  · exact ⟨_, rfl, h⟩
  · exact (hF.bad _ h).elim
theorem blR_fin {Ek : XK} {β : Type} {Fin : Wd → Out β → Prop} (hF : FinOk g Ek Fin) {w : Wd} {x : Rv} {f : Bool → Out β} (h : Fin w (blR x f)) : ∃ i, x = .p (.bl i) ∧ Fin w (f i) := by
  unfold blR at h
  split at h
  · exact ⟨_, rfl, h⟩
  · exact (hF.bad _ h).elim
theorem cmpR_fin {Ek : XK} {β : Type} {Fin : Wd → Out β → Prop} (hF : FinOk g Ek Fin) {w : Wd} {μ : Mu} {op : CmpOp} {x y : Rv} {f : Bool → Out β} (h : Fin w (cmpR op x y μ f)) : ∃ d e b, asP x μ = some d ∧ asP y μ = some e ∧ cmpP op d e = some b ∧ Fin w (f b) := by
  unfold cmpR at h
  obtain ⟨d, e1, h⟩ := onP_fin hF h
  obtain ⟨e, e2, h⟩ := onP_fin hF h
  split at h
  · rename_i b e3
    exact ⟨d, e, b, e1, e2, e3, h⟩
  · exact (hF.bad _ h).elim
theorem of_fin {Ek : XK} {β : Type} {Fin : Wd → Out β → Prop} (hF : FinOk g Ek Fin) {w : Wd} {μ : Mu} {x : Option β} (h : Fin w (Out.of x μ)) : ∃ d, x = some d ∧ Fin w (.ok d μ) := by
  cases x with
  | none => exact (hF.bad _ h).elim
  | some d => exact ⟨d, rfl, h⟩
theorem se_cst {a : Expr} {d : P} (h : ∀ X : Cx, ∃ v, PE X a (tC v) ∧ (∀ H, Rep g H d v) ) (ht : TruE a) : SE g k cl fr a (.cst d) := by
  intro X hf W hW t ρ μ w σ Q hm hρ hp
  obtain ⟨v, h1, h2⟩ := h X
  simp only [evE] at hp
  obtain ⟨Q', q1, q2⟩ := retT_ok hf ht (σ := σ) hp
  exact q1 _ (wE_of h1 (q2 w v (Grow.refl w) hm (h2 _) trivial))
theorem fresh_of {w : Wd} {r : Rv} {v : V} (n : notN r) : Fresh w r v := by cases r <;> first | exact trivial | exact n.elim
theorem se_var {a : Expr} {i : Nat} (h : ∀ X : Cx, FrOk g k fr X → PE X a (tVar i)) (ht : TruE a) : SE g k cl fr a (.var i) := by
  intro X hf W hW t ρ μ w σ Q hm hρ hp
  simp only [evE] at hp
  cases q : ρ[i]? with
  | none => rw [q] at hp; exact hp.elim
  | some o =>
    cases o with
    | none => rw [q] at hp; exact hp.elim
    | some r =>
      rw [q] at hp
      obtain ⟨n, v, e1, hr⟩ := hρ.get i r q
      obtain ⟨Q', q1, q2⟩ := retT_ok hf ht (σ := σ) hp
      exact q1 _ (wE_of (h X hf) ⟨v, e1, q2 w v (Grow.refl w) hm (hr.rep hm n) (fresh_of n)⟩)
theorem se_glb {a : Expr} {x : Str} {d : P} (h : ∀ X : Cx, FrOk g k fr X → ∃ v, PE X a (tC v) ∧ ∀ H, Rep g H d v) : SE g k cl fr a (.glb x d) := by
  intro X hf W hW t ρ μ w σ Q hm hρ hp
  obtain ⟨v, h1, h2⟩ := h X hf
  cases t with
  | false => exact wE_of h1 (post_p hm (opPost hp) (h2 _))
  | true => exact (show False from hp).elim
theorem se_bin {a b : Expr} {ea eb : E} {op : Operator} {pos : Pos} (iha : SE g k cl fr a ea) (ihb : SE g k cl fr b eb) : SE g k cl fr (.BinOp a op b pos) (.bin op ea eb) := by
  intro X hf W hW t ρ μ w σ Q hm hρ hp
  cases t with
  | true => exact (show False from hp).elim
  | false =>
    simp only [evE, Bool.false_eq_true, if_false] at hp
    refine wE_of (pe_op (opR_w _) pe_w pe_w) ?_
    refine iha.bind hf hW hm hρ (post_fin _ _ _ _) hp fun r1 μ1 w1 v1 _ g1 m1 rr1 f1 hρ1 hp1 => ?_
    refine ihb.bind hf hW m1 hρ1 (post_fin _ _ _ _) hp1 fun r2 μ2 w2 v2 _ g2 m2 rr2 f2 hρ2 hp2 => ?_
    obtain ⟨d, hd, hp3⟩ := onP_ok hp2
    obtain ⟨e, he, hp4⟩ := onP_ok hp3
    obtain ⟨r, er, hq⟩ := ofPost hp4
    exact bin_ok hf.x m2 er (asP_rep m2 (rr1.per.grow g2) hd) (asP_rep m2 rr2.per he) hq
theorem se_neg {a : Expr} {ea : E} {pos : Pos} (iha : SE g k cl fr a ea) : SE g k cl fr (.UnaryOp .USub a pos) (.neg ea) := by
  intro X hf W hW t ρ μ w σ Q hm hρ hp
  cases t with
  | true => exact (show False from hp).elim
  | false =>
    simp only [evE, Bool.false_eq_true, if_false] at hp
    refine wE_of (pe_un un_neg pe_w) ?_
    refine iha.bind hf hW hm hρ (post_fin _ _ _ _) hp fun r1 μ1 w1 v1 _ g1 m1 rr1 f1 hρ1 hp1 => ?_
    obtain ⟨i, rfl, hp2⟩ := intR_fin (post_fin _ _ _ _) hp1
    exact ⟨_, rr1, post_p m1 (opPost hp2) rfl⟩
theorem se_not {a : Expr} {ea : E} {pos : Pos} (iha : SE g k cl fr a ea) : SE g k cl fr (.UnaryOp .Not a pos) (.not ea) := by
  intro X hf W hW t ρ μ w σ Q hm hρ hp
  simp only [evE] at hp
  cases t with
  | true =>
    show wT X _ σ w.H _
    refine wT_of (pt_not pt_w) ?_
    refine iha.bindT hf hW hm hρ (post_fin _ _ _ _) hp fun r1 μ1 w1 b1 _ g1 m1 rr1 hρ1 hp1 => ?_
    obtain ⟨i, rfl, hp2⟩ := blR_fin (post_fin _ _ _ _) hp1
    have e := rrep_bl rr1 rfl
    subst e
    exact post_p m1 (opPost hp2) rfl
  | false =>
    show wE X _ σ w.H _
    refine wE_of (pe_not pe_w) ?_
    refine iha.bind hf hW hm hρ (post_fin _ _ _ _) hp fun r1 μ1 w1 v1 _ g1 m1 rr1 f1 hρ1 hp1 => ?_
    obtain ⟨i, rfl, hp2⟩ := blR_fin (post_fin _ _ _ _) hp1
    exact ⟨_, rr1, post_p m1 (opPost hp2) rfl⟩
/-- a comparison's ways out, as a value and as a test -/
theorem se_cmp {a b : Expr} {ea eb : E} {op : CmpOp} {pos : Pos} (hb : behindInMarks op b = false) (iha : SE g k cl fr a ea) (ihb : SE g k cl fr b eb) : SE g k cl fr (.Compare a [op] [b] pos) (.cmp op ea eb) := by
  intro X hf W hW t ρ μ w σ Q hm hρ hp
  simp only [evE] at hp
  have key : tOp (wOp X (compareOp op)) (wE X a) (wE X b) σ w.H fun x H' => ∃ k, x = .bl k ∧ Q (.bl k) H' := by
    refine iha.bind hf hW hm hρ (post_fin _ _ _ _) hp fun r1 μ1 w1 v1 _ g1 m1 rr1 f1 hρ1 hp1 => ?_
    refine ihb.bind hf hW m1 hρ1 (post_fin _ _ _ _) hp1 fun r2 μ2 w2 v2 _ g2 m2 rr2 f2 hρ2 hp2 => ?_
    obtain ⟨d, e, b', hd, he, hc, hp3⟩ := cmpR_fin (post_fin _ _ _ _) hp2
    refine cmp_ok (scr := cl.scr) hf.x m2 hc (asP_rep m2 (rr1.per.grow g2) hd) (asP_rep m2 rr2.per he) fun w' v gr m rr f => ?_
    have e : v = .bl b' := rr
    exact ⟨b', e, hp3 w' (.bl b') gr m rfl trivial⟩
  cases t with
  | false =>
    refine wE_of (pe_cmpR (opR_w _) pe_w pe_w hb) ?_
    have mono : ∀ {H : Hp} {Q Q' : VK}, (∀ v H', Q v H' → Q' v H') → tOp (wOp X (compareOp op)) (wE X a) (wE X b) σ H Q → tOp (wOp X (compareOp op)) (wE X a) (wE X b) σ H Q' := fun hh h =>
      wE_mono h fun v H' h1 => wE_mono h1 fun u H2 h2 pins s σ' v' u' I rv ru => thn (h2 pins s σ' v' u' I rv ru) fun z s' ⟨y, H3, J, r, q⟩ => ⟨y, H3, J, r, hh _ _ q⟩
    exact mono (fun v H' ⟨b', e, q⟩ => by rw [e]; exact q) key
  | true => exact wT_of (pt_cmpR (opR_w _) pe_w pe_w hb) key
theorem se_chn {a b c : Expr} {ea eb ec : E} {op op' : CmpOp} {pos : Pos} (hl : lastMarks [op, op'] [b, c] = false) (iha : SE g k cl fr a ea) (ihb : SE g k cl fr b eb) (ihc : SE g k cl fr c ec) : SE g k cl fr (.Compare a [op, op'] [b, c] pos) (.chn op op' ea eb ec) := by
  intro X hf W hW t ρ μ w σ Q hm hρ hp
  simp only [evE] at hp
  have key : ∀ Q' : VK, (∀ b' H', Q (.bl b') H' → Q' (.bl b') H') → tChain (wOp X (compareOp op)) (wOp X (compareOp op')) (wE X a) (wE X b) (wE X c) σ w.H Q' := fun Q' hQ => by
    refine iha.bind hf hW hm hρ (post_fin _ _ _ _) hp fun r1 μ1 w1 v1 _ g1 m1 rr1 f1 hρ1 hp1 => ?_
    refine ihb.bind hf hW m1 hρ1 (post_fin _ _ _ _) hp1 fun r2 μ2 w2 v2 _ g2 m2 rr2 f2 hρ2 hp2 => ?_
    obtain ⟨d, e, b', hd, he, hc, hp3⟩ := cmpR_fin (post_fin _ _ _ _) hp2
    refine cmp_ok (scr := cl.scr) hf.x m2 hc (asP_rep m2 (rr1.per.grow g2) hd) (asP_rep m2 rr2.per he) fun w3 v3 g3 m3 rr3 f3 => ?_
    have e3 : v3 = .bl b' := rr3
    refine ⟨b', e3, ?_⟩
    cases b' with
    | false =>
      rw [if_neg Bool.false_ne_true] at hp3 ⊢
      exact hQ _ _ (hp3 w3 (.bl false) g3 m3 rfl trivial)
    | true =>
      rw [if_pos rfl] at hp3 ⊢
      refine ihc.bind hf hW m3 (hρ2.grow g3) (post_fin _ _ _ _) ((post_fin _ _ _ _).grow _ _ _ g3 hp3) fun r4 μ4 w4 v4 _ g4 m4 rr4 f4 hρ4 hp4 => ?_
      obtain ⟨d', e', b'', hd', he', hc', hp5⟩ := cmpR_fin (post_fin _ _ _ _) hp4
      refine cmp_ok (scr := cl.scr) hf.x m4 hc' (asP_rep m4 ((rr2.per.grow g3).grow g4) hd') (asP_rep m4 rr4.per he') fun w5 v5 g5 m5 rr5 f5 => ?_
      have e5 : v5 = .bl b'' := rr5
      rw [e5]
      exact hQ _ _ (hp5 w5 (.bl b'') g5 m5 rfl trivial)
  cases t with
  | false => exact wE_of (pe_chain (opR_w _) (opR_w _) pe_w pe_w pe_w hl) (key Q fun _ _ h => h)
  | true => exact wT_of (pt_chain (opR_w _) (opR_w _) pe_w pe_w pe_w hl) (key (fun x H' => ∃ k, x = .bl k ∧ Q (.bl k) H') fun b' _ h => ⟨b', rfl, h⟩)
theorem se_ife {c a b : Expr} {ec ea eb : E} {pos : Pos} (ihc : SE g k cl fr c ec) (iha : SE g k cl fr a ea) (ihb : SE g k cl fr b eb) : SE g k cl fr (.IfExp c a b pos) (.ife ec ea eb) := by
  intro X hf W hW t ρ μ w σ Q hm hρ hp
  cases t with
  | true => exact (show False from hp).elim
  | false =>
    simp only [evE, Bool.false_eq_true, if_false] at hp
    refine wE_of (pe_ifExp pt_w pe_w pe_w) ?_
    refine ihc.bindT hf hW hm hρ (post_fin _ _ _ _) hp fun r1 μ1 w1 b1 _ g1 m1 rr1 hρ1 hp1 => ?_
    obtain ⟨i, rfl, hp2⟩ := blR_fin (post_fin _ _ _ _) hp1
    have e := rrep_bl rr1 rfl
    subst e
    cases i with
    | true =>
      rw [if_pos rfl] at hp2 ⊢
      exact iha X hf W hW false ρ μ1 w1 σ Q m1 hρ1 hp2
    | false =>
      rw [if_neg Bool.false_ne_true] at hp2 ⊢
      exact ihb X hf W hW false ρ μ1 w1 σ Q m1 hρ1 hp2
/-- .. and .., .. or ..: value and test at once -/
def SB (g : Gx) (k : Nat) (cl : Cl) (fr : FrI) (isAnd : Bool) (as : List Expr) (es : List E) : Prop :=
  ∀ X, FrOk g k fr X → ∀ W, TakesAt X W → ∀ (t : Bool) (ρ : Env) (μ : Mu) (w : Wd) (σ : L2.St) (Q : VK), OkM g μ w → EnvOk g cl.scr w ρ σ → Post g cl.scr w (WE W σ) Q (evB cl isAnd es t ρ μ) →
    ∀ pos, if t = true then wW X (.BoolOp (if isAnd then .And else .Or) as pos) σ w.H (fun b H' => Q (.bl b) H') else wE X (.BoolOp (if isAnd then .And else .Or) as pos) σ w.H Q
theorem sb_one {isAnd : Bool} {a : Expr} {e : E} (ih : SE g k cl fr a e) : SB g k cl fr isAnd [a] [e] := by
  intro X hf W hW t ρ μ w σ Q hm hρ hp pos
  simp only [evB] at hp
  have h := ih X hf W hW t ρ μ w σ Q hm hρ hp
  cases t with
  | true =>
    cases isAnd with
    | true => exact wW_of (pw_and1 pt_w) h
    | false => exact wW_of (pw_or1 pt_w) h
  | false => exact wE_of (pe_one pe_w) h
theorem sb_cons {isAnd : Bool} {a b : Expr} {as : List Expr} {e f : E} {es : List E} (ih : SE g k cl fr a e) (ihs : SB g k cl fr isAnd (b :: as) (f :: es)) : SB g k cl fr isAnd (a :: b :: as) (e :: f :: es) := by
  intro X hf W hW t ρ μ w σ Q hm hρ hp pos
  simp only [evB] at hp
  cases t with
  | true =>
    cases isAnd with
    | true =>
      refine wW_of (pw_and pt_w pw_w) ?_
      refine ih.bindT hf hW hm hρ (post_fin _ _ _ _) hp fun r1 μ1 w1 b1 _ g1 m1 rr1 hρ1 hp1 => ?_
      obtain ⟨i, rfl, hp2⟩ := blR_fin (post_fin _ _ _ _) hp1
      have e := rrep_bl rr1 rfl
      subst e
      cases i with
      | true =>
        rw [if_pos rfl] at hp2 ⊢
        exact ihs X hf W hW true ρ μ1 w1 σ Q m1 hρ1 hp2 pos
      | false =>
        rw [if_neg Bool.false_ne_true] at hp2 ⊢
        exact post_p m1 (opPost hp2) rfl
    | false =>
      refine wW_of (pw_or pt_w pw_w) ?_
      refine ih.bindT hf hW hm hρ (post_fin _ _ _ _) hp fun r1 μ1 w1 b1 _ g1 m1 rr1 hρ1 hp1 => ?_
      obtain ⟨i, rfl, hp2⟩ := blR_fin (post_fin _ _ _ _) hp1
      have e := rrep_bl rr1 rfl
      subst e
      cases i with
      | true =>
        rw [if_neg (by decide)] at hp2
        rw [if_pos rfl]
        exact post_p m1 (opPost hp2) rfl
      | false =>
        rw [if_pos rfl] at hp2
        rw [if_neg Bool.false_ne_true]
        exact ihs X hf W hW true ρ μ1 w1 σ Q m1 hρ1 hp2 pos
  | false =>
    cases isAnd with
    | true =>
      refine wE_of (pe_and pe_w pe_w) ?_
      refine ih.bind hf hW hm hρ (post_fin _ _ _ _) hp fun r1 μ1 w1 v1 _ g1 m1 rr1 f1 hρ1 hp1 => ?_
      obtain ⟨i, rfl, hp2⟩ := blR_fin (post_fin _ _ _ _) hp1
      refine ⟨i, rr1, ?_⟩
      cases i with
      | true =>
        rw [if_pos rfl] at hp2 ⊢
        exact ihs X hf W hW false ρ μ1 w1 σ Q m1 hρ1 hp2 pos
      | false =>
        rw [if_neg Bool.false_ne_true] at hp2 ⊢
        exact post_p m1 (opPost hp2) rfl
    | false =>
      refine wE_of (pe_or pe_w pe_w) ?_
      refine ih.bind hf hW hm hρ (post_fin _ _ _ _) hp fun r1 μ1 w1 v1 _ g1 m1 rr1 f1 hρ1 hp1 => ?_
      obtain ⟨i, rfl, hp2⟩ := blR_fin (post_fin _ _ _ _) hp1
      refine ⟨i, rr1, ?_⟩
      cases i with
      | true =>
        rw [if_neg (by decide)] at hp2
        rw [if_pos rfl]
        exact post_p m1 (opPost hp2) rfl
      | false =>
        rw [if_pos rfl] at hp2
        rw [if_neg Bool.false_ne_true]
        exact ihs X hf W hW false ρ μ1 w1 σ Q m1 hρ1 hp2 pos
theorem se_boo {isAnd : Bool} {as : List Expr} {es : List E} {pos : Pos} (h : SB g k cl fr isAnd as es) : SE g k cl fr (.BoolOp (if isAnd then .And else .Or) as pos) (.boo isAnd es) := by
  intro X hf W hW t ρ μ w σ Q hm hρ hp
  simp only [evE] at hp
  have := h X hf W hW t ρ μ w σ Q hm hρ hp pos
  cases t with
  | true => exact wT_of_W this
  | false => exact this
/-! lists of expressions -/
/-- arguments of a call -/
def SA (g : Gx) (k : Nat) (cl : Cl) (fr : FrI) (as : List Expr) (es : List E) : Prop :=
  ∀ X, FrOk g k fr X → ∀ W, TakesAt X W → ∀ (ρ : Env) (μ : Mu) (w : Wd) (σ : L2.St), OkM g μ w → EnvOk g cl.scr w ρ σ → ∀ {β : Type} {Fin : Wd → Out β → Prop}, FinOk g (WE W σ) Fin → ∀ {F : List Rv → Mu → Out β}, Fin w ((evAs cl es ρ μ).bind F) →
    ∀ {Q : List V → Hp → Prop}, (∀ rs μ1 w1 vs, vs.length = as.length → Grow w w1 → OkM g μ1 w1 → RReps g cl.scr w1 rs vs → EnvOk g cl.scr w1 ρ σ → Fin w1 (F rs μ1) → Q vs w1.H) → wA X as σ w.H Q
/-- a value becomes an argument: a new list is data from now on -/
theorem arg_rep {scr : List Int} {w : Wd} {μ : Mu} (hm : OkM g μ w) {r : Rv} {v : V} (h : RRep g scr w r v) : ∃ w', w'.H = w.H ∧ Grow w w' ∧ OkM g μ w' ∧ notN (argR r) ∧ RPer g scr w' (argR r) v := by
  cases r with
  | p d => exact ⟨w, rfl, Grow.refl w, hm, trivial, h⟩
  | o j => exact ⟨w, rfl, Grow.refl w, hm, trivial, h⟩
  | scr => exact ⟨w, rfl, Grow.refl w, hm, trivial, h⟩
  | n ds =>
    obtain ⟨w', e, g1, m1, h1⟩ := frz_rep (r := .n ds) hm h rfl
    exact ⟨w', e, g1, m1, trivial, h1⟩
theorem Out.bind_assoc {α β γ : Type} (x : Out α) (f : α → Mu → Out β) (h : β → Mu → Out γ) : (x.bind f).bind h = x.bind fun a μ => (f a μ).bind h := by cases x <;> rfl
theorem sa_nil : SA g k cl fr [] [] := by
  intro X hf W hW ρ μ w σ hm hρ β Fin hF F hp Q kq
  simp only [evAs] at hp
  exact wA_of pa_nil (kq [] μ w [] rfl (Grow.refl w) hm rfl hρ hp)
theorem sa_cons {a : Expr} {as : List Expr} {e : E} {es : List E} (hs : ∀ env : PySem.Env, starEach (a :: as) env = (false, eval a env) :: starEach as env) (ih : SE g k cl fr a e) (ihs : SA g k cl fr as es) : SA g k cl fr (a :: as) (e :: es) := by
  intro X hf W hW ρ μ w σ hm hρ β Fin hF F hp Q kq
  simp only [evAs, Out.bind_assoc] at hp
  refine wA_of (pa_cons pe_w pa_w (hs _)) ?_
  refine ih.bind hf hW hm hρ hF hp fun r1 μ1 w1 v1 _ g1 m1 rr1 f1 hρ1 hp1 => ?_
  obtain ⟨w2, e2, g2, m2, n2, h2⟩ := arg_rep m1 rr1
  rw [← e2]
  refine ihs X hf W hW ρ μ1 w2 σ m2 (hρ1.grow g2) hF (hF.grow _ _ _ g2 hp1) fun rs μ3 w3 vs hl g3 m3 hrs hρ3 hp3 => ?_
  exact kq (argR r1 :: rs) μ3 w3 (v1 :: vs) (by rw [List.length_cons, List.length_cons, hl]) ((g1.trans g2).trans g3) m3 ⟨v1, vs, rfl, n2, h2.grow g3, hrs⟩ hρ3 hp3
/-- items of a display -/
def SF (g : Gx) (k : Nat) (cl : Cl) (fr : FrI) (as : List Expr) (es : List E) : Prop :=
  ∀ X, FrOk g k fr X → ∀ W, TakesAt X W → ∀ (ρ : Env) (μ : Mu) (w : Wd) (σ : L2.St), OkM g μ w → EnvOk g cl.scr w ρ σ → ∀ {β : Type} {Fin : Wd → Out β → Prop}, FinOk g (WE W σ) Fin → ∀ {F : List P → Mu → Out β}, Fin w ((evFs cl es ρ μ).bind F) →
    ∀ {Q : List V → Hp → Prop}, (∀ ds μ1 w1 vs, Grow w w1 → OkM g μ1 w1 → Reps g w1.Hb ds vs → EnvOk g cl.scr w1 ρ σ → Fin w1 (F ds μ1) → Q vs w1.H) → wA X as σ w.H Q
theorem frzO_fin {Ek : XK} {β : Type} {Fin : Wd → Out β → Prop} (hF : FinOk g Ek Fin) {scr : List Int} {w : Wd} {μ : Mu} (hm : OkM g μ w) {r : Rv} {v : V} (h : RRep g scr w r v) {F : P → Mu → Out β} (hp : Fin w ((frzO r μ).bind F)) :
    ∃ d μ1 w1, w1.H = w.H ∧ Grow w w1 ∧ OkM g μ1 w1 ∧ Rep g w1.Hb d v ∧ Fin w1 (F d μ1) := by
  unfold frzO at hp
  cases q : frz r μ with
  | none => rw [q] at hp; exact (hF.bad _ hp).elim
  | some x =>
    obtain ⟨d, μ1⟩ := x
    rw [q] at hp
    obtain ⟨w1, e1, g1, m1, h1⟩ := frz_rep hm h q
    exact ⟨d, μ1, w1, e1, g1, m1, h1, hF.grow _ _ _ g1 hp⟩
theorem sf_nil : SF g k cl fr [] [] := by
  intro X hf W hW ρ μ w σ hm hρ β Fin hF F hp Q kq
  simp only [evFs] at hp
  exact wA_of pa_nil (kq [] μ w [] (Grow.refl w) hm rfl hρ hp)
theorem sf_cons {a : Expr} {as : List Expr} {e : E} {es : List E} (hs : ∀ env : PySem.Env, starEach (a :: as) env = (false, eval a env) :: starEach as env) (ih : SE g k cl fr a e) (ihs : SF g k cl fr as es) : SF g k cl fr (a :: as) (e :: es) := by
  intro X hf W hW ρ μ w σ hm hρ β Fin hF F hp Q kq
  simp only [evFs, Out.bind_assoc] at hp
  refine wA_of (pa_cons pe_w pa_w (hs _)) ?_
  refine ih.bind hf hW hm hρ hF hp fun r1 μ1 w1 v1 _ g1 m1 rr1 f1 hρ1 hp1 => ?_
  obtain ⟨d, μ2, w2, e2, g2, m2, h2, hp2⟩ := frzO_fin hF m1 rr1 hp1
  rw [← e2]
  refine ihs X hf W hW ρ μ2 w2 σ m2 (hρ1.grow g2) hF hp2 fun ds μ3 w3 vs g3 m3 hrs hρ3 hp3 => ?_
  exact kq (d :: ds) μ3 w3 (v1 :: vs) ((g1.trans g2).trans g3) m3 ⟨v1, vs, rfl, Rep.mono g3.hb _ _ h2, hrs⟩ hρ3 hp3
/-- a range's ints -/
def SI (g : Gx) (k : Nat) (cl : Cl) (fr : FrI) (as : List Expr) (es : List E) : Prop :=
  ∀ X, FrOk g k fr X → ∀ W, TakesAt X W → ∀ (ρ : Env) (μ : Mu) (w : Wd) (σ : L2.St), OkM g μ w → EnvOk g cl.scr w ρ σ → ∀ {β : Type} {Fin : Wd → Out β → Prop}, FinOk g (WE W σ) Fin → ∀ {F : List Int → Mu → Out β}, Fin w ((evIs cl es ρ μ).bind F) →
    ∀ {Q : List V → Hp → Prop}, (∀ ns μ1 w1, ns.length = as.length → Grow w w1 → OkM g μ1 w1 → EnvOk g cl.scr w1 ρ σ → Fin w1 (F ns μ1) → Q (ns.map V.int) w1.H) → wA X as σ w.H Q
theorem si_nil : SI g k cl fr [] [] := by
  intro X hf W hW ρ μ w σ hm hρ β Fin hF F hp Q kq
  simp only [evIs] at hp
  exact wA_of pa_nil (kq [] μ w rfl (Grow.refl w) hm hρ hp)
theorem intR_bind {α β : Type} (x : Rv) (f : Int → Out α) (h : α → Mu → Out β) : (intR x f).bind h = intR x fun i => (f i).bind h := by
  unfold intR
  split <;> rfl
theorem si_cons {a : Expr} {as : List Expr} {e : E} {es : List E} (hs : ∀ env : PySem.Env, starEach (a :: as) env = (false, eval a env) :: starEach as env) (ih : SE g k cl fr a e) (ihs : SI g k cl fr as es) : SI g k cl fr (a :: as) (e :: es) := by
  intro X hf W hW ρ μ w σ hm hρ β Fin hF F hp Q kq
  simp only [evIs, Out.bind_assoc, intR_bind] at hp
  refine wA_of (pa_cons pe_w pa_w (hs _)) ?_
  refine ih.bind hf hW hm hρ hF hp fun r1 μ1 w1 v1 _ g1 m1 rr1 f1 hρ1 hp1 => ?_
  obtain ⟨i, rfl, hp2⟩ := intR_fin hF hp1
  have e1 : v1 = .int i := rr1
  subst e1
  refine ihs X hf W hW ρ μ1 w1 σ m1 hρ1 hF hp2 fun ns μ3 w3 hl g3 m3 hρ3 hp3 => ?_
  exact kq (i :: ns) μ3 w3 (by rw [List.length_cons, List.length_cons, hl]) (g1.trans g3) m3 hρ3 hp3
end
end R

set_option Elab.async false
set_option linter.all false
set_option maxRecDepth 100000
set_option maxHeartbeats 1000000
/-! # R6: calls, subscripts, displays, comprehensions -/
namespace R
open PySem L2 PyProof.Rows PySem.W
/-! ### slices that go backwards -/
section
variable {prog : Program} {w : World} {A : Around} {E : Value → Shared → Prop} {s : Shared}
theorem sliceApplied_neg {sl : Addr} {vl vu vs : Value} {lo hi : Option Int} {n : Nat} {x y : Int} {Q : Int × Int × Nat → Shared → Prop} (hs : s.heap.IsSliceOf sl vl vu vs) (pl : IsPart vl lo) (pu : IsPart vu hi) (ps : IsPart vs (some (-1)))
    (ha : Builtin.Slice.sliceAdjust lo hi (-1) (n : Int) = (x, y)) (h : Q (x, -1, Builtin.Slice.slicePlaces x y (-1)) s) : wpAny (model prog w) A (Builtin.Slice.sliceApplied (.ref sl) (pure (n : Int))) Q E s := by
  obtain ⟨os, hos, hcs, hds⟩ := id hs
  unfold Builtin.Slice.sliceApplied Builtin.Slice.sliceFields
  refine wpAny_bind (wpAny_bind (wpAny_field hos hds (x := vl) rfl (wpAny_bind (wpAny_field hos hds (x := vu) rfl (wpAny_bind (wpAny_field hos hds (x := vs) rfl (wpAny_pure ?_)))))))
  refine wpAny_bind (HT.slicePart_ ps ?_)
  show wpAny _ _ (if ((-1 : Int) == 0) = true then _ else _) _ _ s
  rw [if_neg (by decide)]
  refine wpAny_bind (HT.slicePart_ pl (wpAny_bind (HT.slicePart_ pu (wpAny_bind (wpAny_pure ?_)))))
  show wpAny _ _ (match Builtin.Slice.sliceAdjust lo hi (-1) (n : Int) with | (lo, hi) => pure (lo, (-1 : Int), Builtin.Slice.slicePlaces lo hi (-1))) _ _ s
  rw [ha]
  exact wpAny_pure h
theorem getItem_tuple_neg {t sl : Addr} {items : Array Value} {vl vu vs : Value} {lo hi : Option Int} {x y : Int} {Q : Value → Shared → Prop} (ht : IsTup s.heap t items) (hs : s.heap.IsSliceOf sl vl vu vs) (pl : IsPart vl lo) (pu : IsPart vu hi) (ps : IsPart vs (some (-1)))
    (ha : Builtin.Slice.sliceAdjust lo hi (-1) (items.size : Int) = (x, y)) (hk : Builtin.Slice.slicePlaces x y (-1) ≤ items.size)
    (h : Q (.ref s.heap.objs.size) { s with heap := s.heap.push { cls := .type "tuple", data := .seq ((List.range (Builtin.Slice.slicePlaces x y (-1))).filterMap fun (k : Nat) => items[(x + (k : Int) * -1).toNat]?).toArray } })
    (hsz : items.size ≤ sizeLine) : wpAny (model prog w) A (getItem (.ref t) (.ref sl)) Q E s := by
  have htake : sizeOk (.seq ((List.range (Builtin.Slice.slicePlaces x y (-1))).filterMap fun (k : Nat) => items[(x + (k : Int) * -1).toNat]?).toArray) := by
    show ((List.range (Builtin.Slice.slicePlaces x y (-1))).filterMap fun (k : Nat) => items[(x + (k : Int) * -1).toNat]?).toArray.size ≤ sizeLine
    rw [List.size_toArray]
    exact Nat.le_trans (Nat.le_trans (List.length_filterMap_le _ _) (by rw [List.length_range]; exact hk)) hsz
  obtain ⟨os, hos, hcs, hds⟩ := id hs
  have hTs : s.TypeIs (.ref sl) "slice" := ⟨os, hos, hcs⟩
  unfold getItem
  try with_reducible refine wpAny_holding ?_
  first | refine wpAny_bind (wpAny_pure ?_) | skip
  refine wpAny_bind (wpAny_sequenceKey ht.typeIs (by decide) ?_)
  refine wpAny_bind (wpAny_callSpecial?_slot (name := Str.ofString "__getitem__") ht.typeIs PyProof.Rows.slot_tuple_getitem
    (wpAny_call_entry PyProof.Rows.slot_tuple_getitem ht.typeIs entry_tuple_getitem ?_ (args_tuple_getitem _ _)))
  show wpAny _ _ (Builtin.Tuple.tupleItemsOf (.ref t) >>= _) _ _ s
  refine wpAny_bind (tupleItemsOf_ ht ?_)
  refine wpAny_bind (wpAny_typeOf hTs ?_)
  rw [if_pos (by decide)]
  refine wpAny_bind (sliceApplied_neg hs pl pu ps ha ?_)
  have hno : ¬ ((x == 0 && (-1 : Int) == 1 && (Builtin.Slice.slicePlaces x y (-1)) == items.size) = true) := by
    rw [show ((-1 : Int) == 1) = false from by decide, Bool.and_false, Bool.false_and]
    exact Bool.false_ne_true
  show wpAny _ _ (if (x == 0 && (-1 : Int) == 1 && (Builtin.Slice.slicePlaces x y (-1)) == items.size) = true then _ else _) _ _ s
  rw [if_neg hno]
  first
    | exact wpAny_bind (m := Builtin.Tuple.tupleExact _) (wpAny_newObj_type (wpAny_pure ⟨_, rfl, wpAny_pure h⟩) htake)
    | exact wpAny_bind (m := Builtin.Tuple.tupleExact _) (wpAny_newObj_type (wpAny_bind (wpAny_pure (wpAny_pure ⟨_, rfl, wpAny_pure h⟩))) htake)
    | exact wpAny_bind (wpAny_bind (m := Builtin.Tuple.tupleExact _) (wpAny_newObj_type (wpAny_pure (wpAny_pure ⟨_, rfl, wpAny_pure h⟩)) htake))
    | exact wpAny_bind (wpAny_bind (m := Builtin.Tuple.tupleExact _) (wpAny_newObj_type (wpAny_pure ⟨_, rfl, wpAny_pure h⟩) htake))
end
/-- the items from place a down to place b + 1 -/
theorem pick_down {α : Type} (xs : List α) (a b : Nat) (ha : a < xs.length) (hb : b ≤ a) : ((List.range (a - b)).filterMap fun (k : Nat) => xs[((a : Int) + (k : Int) * -1).toNat]?) = ((xs.take (a + 1)).drop (b + 1)).reverse := by
  have e : ∀ m, m ≤ a - b → ((List.range m).filterMap fun (k : Nat) => xs[((a : Int) + (k : Int) * -1).toNat]?) = ((xs.take (a + 1)).drop (a + 1 - m)).reverse := by
    intro m
    induction m with
    | zero =>
      intro _
      rw [List.drop_eq_nil_of_le (by rw [List.length_take]; omega)]
      rfl
    | succ m ih =>
      intro hm
      rw [List.range_succ, List.filterMap_append, ih (by omega)]
      have e1 : ((a : Int) + (m : Int) * -1).toNat = a - m := by omega
      have hlt : a - m < xs.length := by omega
      have e2 : a + 1 - (m + 1) = a - m := by omega
      have e3 : a + 1 - m = a - m + 1 := by omega
      rw [List.filterMap_cons, e1, List.getElem?_eq_getElem hlt, e2, e3]
      have hl2 : a - m < (xs.take (a + 1)).length := by rw [List.length_take]; omega
      rw [List.drop_eq_getElem_cons hl2, List.reverse_cons, List.getElem_take]
      rfl
  have := e (a - b) (Nat.le_refl _)
  rw [this]
  congr 2
  omega
section
variable (X : Cx)
/-- a subscript by a slice with a step, by values -/
def wS3 (lo hi st : Option Int) : V → Hp → VK → Prop := fun x H Q => ∀ (pins : List (Addr × Obj)) (s : Shared) (σ : L2.St) (v vl vu vs : Value) (sl : Addr), Inv X pins σ H s → RelV x v → s.heap.IsSliceOf sl vl vu vs → IsPart vl lo → IsPart vu hi → IsPart vs st →
  ∃ T id, typeLookup (.type T) "__getitem__" = pure (some (.builtin id)) ∧ s.TypeIs v T ∧ wpAny (model X.prog X.w) X.A (getItem v (.ref sl)) (EP X pins σ Q) X.xe s
end
section
variable {X : Cx} {e : Expr} {lo hi : Option Expr} {i j : Option Int} {st : Expr} {p2 pos : Pos} {σ : L2.St} {H : Hp} {Q : VK}
/-- a[lo:hi:st], the parts written -/
theorem wE_slice3 (hlo : PO X lo (fun _ H Q => Q i H)) (hhi : PO X hi (fun _ H Q => Q j H)) (hst : PO X (some st) (fun _ H Q => Q (some (-1)) H)) (h : wE X e σ H fun x H1 => wS3 X i j (some (-1)) x H1 Q) : wE X (.Subscript e (.Slice lo hi (some st) p2) pos) σ H Q := by
  intro pins s I
  refine Subscript_ (thn (h pins s I) fun v s1 ⟨x, H1, I1, r1, q1⟩ => ?_)
  refine wpAny_Slice (thn (hlo.run pins s1 σ H1 (fun o H2 => o = i ∧ H2 = H1) I1 ⟨rfl, rfl⟩) fun vl s2 ⟨l, H2, I2, pl, el, e2⟩ => ?_)
  subst el e2
  refine thn (hhi.run pins s2 σ H2 (fun o H3 => o = j ∧ H3 = H2) I2 ⟨rfl, rfl⟩) fun vu s3 ⟨u, H3, I3, pu, eu, e3⟩ => ?_
  subst eu e3
  refine thn (hst.run pins s3 σ H3 (fun o H4 => o = some (-1) ∧ H4 = H3) I3 ⟨rfl, rfl⟩) fun vs s4 ⟨o, H4, I4, ps, eo, e4⟩ => ?_
  subst eo e4
  have I5 : Inv X pins σ H4 { s4 with heap := s4.heap.push { cls := .type "slice", data := .fields #[vl, vu, vs] } } := I4.kept (t' := s4.toks) fun b ob q => Heap.get?_push_of_some _ q
  obtain ⟨T, id, hT, ht, hg⟩ := q1 pins { s4 with heap := s4.heap.push { cls := .type "slice", data := .fields #[vl, vu, vs] } } σ v vl vu vs s4.heap.objs.size I5 r1 (Heap.IsSliceOf.new ..) pl pu ps
  show wpAny (model X.prog X.w) X.A (subscriptTail e (.Slice lo hi (some st) p2) v (.ref s4.heap.objs.size)) (EP X pins σ Q) X.xe { s4 with heap := s4.heap.push { cls := .type "slice", data := .fields #[vl, vu, vs] } }
  exact tail_any (ops := [v, .ref s4.heap.objs.size]) ht hT hg (by with_unfolding_all rfl)
theorem po_m1 {k : Nat} {p1 p2 : Pos} : PO X (some (.UnaryOp .USub (.Constant (.int 1) k p1) p2)) (fun _ H Q => Q (some (-1)) H) :=
  ⟨fun pins s σ H Q I h => (po_some (pe_un un_neg pe_int)).run pins s σ H Q I ⟨1, rfl, -1, rfl, h⟩⟩
theorem po_int {i : Int} {k : Nat} {p1 : Pos} : PO X (some (.Constant (.int i) k p1)) (fun _ H Q => Q (some i) H) :=
  ⟨fun pins s σ H Q I h => (po_some pe_int).run pins s σ H Q I ⟨i, rfl, h⟩⟩
theorem po_no : PO X none (fun _ H Q => Q none H) := po_none
end
section
variable {g : Gx} {scr : List Int} {w : Wd} {μ : Mu} {Q : VK} {X : Cx} (hX : XOk g X) {x : V}
include hX
theorem rev_ok (hm : OkM g μ w) {a : P} {r : Rv} (e : revP a = some r) (ha : TRep g w a x) (hq : OpPost g scr w μ Q r) : wS3 X none none (some (-1)) x w.H Q := by
  unfold revP at e
  split at e
  · cases e
    obtain ⟨p, vs, rfl, hp, hr⟩ := trep_lst ha
    intro pins s σ v vl vu vst sl I rx hs pl pu ps
    cases rx
    obtain ⟨its, rv, ht, hz⟩ := I.list (SqL.of hp)
    refine ⟨"list", _, PySem.slot_list_getitem.lookup, ht.isList.typeIs, ?_⟩
    refine wpAny_getItem_list_slice ht.isList hs pl pu ps (by decide) ?_ (by rw [List.size_toArray, ← rv.length]; exact hz)
    rw [PySem.W.krv_pick]
    refine ⟨.ref _, _, I.laid (t' := s.toks) (o := .lst vs.reverse) (fun b ob q => Heap.get?_push_of_some _ q) (Nat.le_refl _) ?_, rfl, post_lst hm hq hr.reverse (I.hok.fresh (Nat.le_refl _))⟩
    exact ⟨by rw [List.length_reverse]; exact hz, _, 0, rv.reverse, Heap.get?_push_size _ rfl⟩
  · split at e <;> cases e
    rename_i xs hne
    obtain ⟨p, vs, rfl, hp, hr⟩ := trep_tup ha
    intro pins s σ v vl vu vst sl I rx hs pl pu ps
    cases rx
    obtain ⟨its, rv, ht, hz⟩ := I.tuple (SqT.of hp)
    have hl : its.length = xs.length := by rw [← rv.length, hr.length]
    have hpos : 0 < xs.length := by
      rcases Nat.eq_zero_or_pos xs.length with h | h
      · exact absurd (List.eq_nil_of_length_eq_zero h) hne
      · exact h
    have ea : Builtin.Slice.sliceAdjust none none (-1) (its.toArray.size : Int) = (((its.length - 1 : Nat) : Int), -1) := by
      unfold Builtin.Slice.sliceAdjust
      simp only [List.size_toArray]
      refine Prod.ext ?_ rfl
      show (its.length : Int) - 1 = _
      omega
    have ep : Builtin.Slice.slicePlaces ((its.length - 1 : Nat) : Int) (-1) (-1) = its.length := by
      unfold Builtin.Slice.slicePlaces
      rw [if_neg (by decide), if_pos (by omega)]
      have : -(-1 : Int) = 1 := rfl
      rw [this, Int.ediv_one]
      omega
    refine ⟨"tuple", _, PyProof.Rows.slot_tuple_getitem.lookup, ht.typeIs, ?_⟩
    refine getItem_tuple_neg ht hs pl pu ps ea (by rw [ep, List.size_toArray]; exact Nat.le_refl _) ?_ (by rw [List.size_toArray, ← rv.length]; exact hz)
    rw [ep]
    have e3 : ((List.range its.length).filterMap fun (k : Nat) => its.toArray[(((its.length - 1 : Nat) : Int) + (k : Int) * -1).toNat]?) = its.reverse := by
      have e1 : ∀ m, m ≤ its.length → ((List.range m).filterMap fun (k : Nat) => its.toArray[(((its.length - 1 : Nat) : Int) + (k : Int) * -1).toNat]?) = (its.drop (its.length - m)).reverse := by
        intro m
        induction m with
        | zero => intro _; rw [Nat.sub_zero, List.drop_length]; rfl
        | succ m ih =>
          intro hm'
          rw [List.range_succ, List.filterMap_append, ih (by omega)]
          have q1 : (((its.length - 1 : Nat) : Int) + (m : Int) * -1).toNat = its.length - (m + 1) := by omega
          have hlt : its.length - (m + 1) < its.length := by omega
          have q3 : its.length - m = its.length - (m + 1) + 1 := by omega
          rw [List.filterMap_cons, q1, List.getElem?_toArray, List.getElem?_eq_getElem hlt, q3, List.drop_eq_getElem_cons hlt, List.reverse_cons]
          rfl
      have := e1 its.length (Nat.le_refl _)
      rw [this, Nat.sub_self, List.drop_zero]
    rw [e3]
    refine ⟨.ref _, _, I.laid (t' := s.toks) (o := .tup vs.reverse) (fun b ob q => Heap.get?_push_of_some _ q) (Nat.le_refl _) ?_, rfl, post_tup hm hq hr.reverse (I.hok.fresh (Nat.le_refl _))⟩
    exact ⟨by rw [List.length_reverse]; exact hz, _, rv.reverse, ⟨_, Heap.get?_push_size _ rfl, rfl, _, rfl⟩⟩
  · cases e
theorem slb_ok (hm : OkM g μ w) {a : P} {r : Rv} {i j : Nat} (e : slbP a i j = some r) (ha : TRep g w a x) (hq : OpPost g scr w μ Q r) : wS3 X (some (i : Int)) (some (j : Int)) (some (-1)) x w.H Q := by
  unfold slbP at e
  split at e
  · split at e <;> cases e
    rename_i xs hij
    obtain ⟨h1, h2⟩ := hij
    obtain ⟨p, vs, rfl, hp, hr⟩ := trep_tup ha
    intro pins s σ v vl vu vst sl I rx hs pl pu ps
    cases rx
    obtain ⟨its, rv, ht, hz⟩ := I.tuple (SqT.of hp)
    have hl : its.length = xs.length := by rw [← rv.length, hr.length]
    have ea : Builtin.Slice.sliceAdjust (some (i : Int)) (some (j : Int)) (-1) (its.toArray.size : Int) = ((i : Int), (j : Int)) := by
      unfold Builtin.Slice.sliceAdjust
      simp only [List.size_toArray, hl]
      have c1 : ((-1 : Int) < 0) = True := eq_true (by decide)
      simp only [c1, if_true]
      refine Prod.ext ?_ ?_
      · show (if ((i : Nat) : Int) < 0 then max (i + (xs.length : Int)) (-1) else min (i : Int) ((xs.length : Int) - 1)) = (i : Int)
        rw [if_neg (by omega)]
        show min (i : Int) ((xs.length : Int) - 1) = (i : Int)
        omega
      · show (if ((j : Nat) : Int) < 0 then max (j + (xs.length : Int)) (-1) else min (j : Int) ((xs.length : Int) - 1)) = (j : Int)
        rw [if_neg (by omega)]
        show min (j : Int) ((xs.length : Int) - 1) = (j : Int)
        omega
    have ep : Builtin.Slice.slicePlaces (i : Int) (j : Int) (-1) = i - j := by
      unfold Builtin.Slice.slicePlaces
      rw [if_neg (by decide)]
      have : -(-1 : Int) = 1 := rfl
      rw [this, Int.ediv_one]
      split <;> omega
    refine ⟨"tuple", _, PyProof.Rows.slot_tuple_getitem.lookup, ht.typeIs, ?_⟩
    refine getItem_tuple_neg ht hs pl pu ps ea (by rw [ep, List.size_toArray]; omega) ?_ (by rw [List.size_toArray, ← rv.length]; exact hz)
    rw [ep]
    have e3 : ((List.range (i - j)).filterMap fun (k : Nat) => its.toArray[((i : Int) + (k : Int) * -1).toNat]?) = ((its.take (i + 1)).drop (j + 1)).reverse := by
      rw [← pick_down its i j (by omega) h2]
      congr 1
      funext k
      rw [List.getElem?_toArray]
    rw [e3]
    refine ⟨.ref _, _, I.laid (t' := s.toks) (o := .tup ((vs.take (i + 1)).drop (j + 1)).reverse) (fun b ob q => Heap.get?_push_of_some _ q) (Nat.le_refl _) ?_, rfl, post_tup hm hq ((hr.take _).drop _).reverse (I.hok.fresh (Nat.le_refl _))⟩
    refine ⟨?_, _, ((rv.take _).drop _).reverse, ⟨_, Heap.get?_push_size _ rfl, rfl, _, rfl⟩⟩
    rw [List.length_reverse, List.length_drop, List.length_take]
    omega
  · cases e
end
section
variable {g : Gx} {k : Nat} {cl : Cl} {fr : FrI} {nm : Nm}
theorem se_rev {a : Expr} {ea : E} {kk : Nat} {p1 p2 p3 pos : Pos} (iha : SE g k cl fr a ea) : SE g k cl fr (.Subscript a (.Slice none none (some (.UnaryOp .USub (.Constant (.int 1) kk p1) p2)) p3) pos) (.rev ea) := by
  intro X hf W hW t ρ μ w σ Q hm hρ hp
  cases t with
  | true => exact (show False from hp).elim
  | false =>
    simp only [evE, Bool.false_eq_true, if_false] at hp
    refine wE_slice3 po_no po_no po_m1 ?_
    refine iha.bind hf hW hm hρ (post_fin _ _ _ _) hp fun r1 μ1 w1 v1 _ g1 m1 rr1 f1 hρ1 hp1 => ?_
    obtain ⟨d, hd, hp3⟩ := onP_ok hp1
    obtain ⟨r, er, hq⟩ := ofPost hp3
    exact rev_ok hf.x m1 er (asP_rep m1 rr1.per hd) hq
theorem se_slb {a : Expr} {ea : E} {i j : Nat} {kk k1 k2 : Nat} {q1 q2 p1 p2 p3 pos : Pos} (iha : SE g k cl fr a ea) : SE g k cl fr (.Subscript a (.Slice (some (.Constant (.int (i : Int)) k1 q1)) (some (.Constant (.int (j : Int)) k2 q2)) (some (.UnaryOp .USub (.Constant (.int 1) kk p1) p2)) p3) pos) (.slb ea i j) := by
  intro X hf W hW t ρ μ w σ Q hm hρ hp
  cases t with
  | true => exact (show False from hp).elim
  | false =>
    simp only [evE, Bool.false_eq_true, if_false] at hp
    refine wE_slice3 po_int po_int po_m1 ?_
    refine iha.bind hf hW hm hρ (post_fin _ _ _ _) hp fun r1 μ1 w1 v1 _ g1 m1 rr1 f1 hρ1 hp1 => ?_
    obtain ⟨d, hd, hp3⟩ := onP_ok hp1
    obtain ⟨r, er, hq⟩ := ofPost hp3
    exact slb_ok hf.x m1 er (asP_rep m1 rr1.per hd) hq
theorem bind_fin {Ek : XK} {α β : Type} {Fin : Wd → Out β → Prop} (hF : FinOk g Ek Fin) (F : α → Mu → Out β) : FinOk g Ek (fun w (r : Out α) => Fin w (r.bind F)) where
  bad := fun w h => hF.bad w h
  exc := fun w n μ h => hF.exc w n μ h
  grow := fun w w' r gr h => hF.grow w w' _ gr h
/-- the wish behind a truth that is asked as a test -/
def QB (t : Bool) (Q : VK) : VK := if t = true then fun x H => ∃ b, x = .bl b ∧ Q (.bl b) H else Q
def QT (X : Cx) (t : Bool) (Q : VK) : VK := if t = true then fun x H => wTru X x H fun b H2 => Q (.bl b) H2 else Q
theorem wEt_B {X : Cx} {a : Expr} {t : Bool} {σ : L2.St} {H : Hp} {Q : VK} (ht : TruE a) (h : wE X a σ H (QB t Q)) : wEt X t a σ H Q := by
  cases t with
  | false => exact h
  | true => exact wT_bl (Q := fun b H' => Q (.bl b) H') (ht _) h
theorem wEt_T {X : Cx} {a : Expr} {t : Bool} {σ : L2.St} {H : Hp} {Q : VK} (ht : TruE a) (h : wE X a σ H (QT X t Q)) : wEt X t a σ H Q := by
  cases t with
  | false => exact h
  | true => exact wT_tru (Q := fun b H' => Q (.bl b) H') (ht _) h
theorem retB_post {scr : List Int} {t : Bool} {r : Rv} {μ : Mu} {w : Wd} {Ek : XK} {Q : VK} (h : Post g scr w Ek Q (retB t r μ)) : OpPost g scr w μ (QB t Q) r := by
  cases t with
  | false => exact h
  | true =>
    simp only [retB, if_true] at h
    split at h
    · rename_i b
      intro w2 v g2 m2 rr f
      have ev : v = .bl b := rr
      exact ⟨b, ev, h w2 (.bl b) g2 m2 rfl trivial⟩
    · exact h.elim
theorem retT_post {X : Cx} (hf : FrOk g k fr X) {t : Bool} {x : Out Rv} {w : Wd} {Ek : XK} {Q : VK} (h : Post g cl.scr w Ek Q (x.bind fun r μ => retT cl.scr t r μ)) : Post g cl.scr w Ek (QT X t Q) x := by
  cases x with
  | bad => exact h
  | exc n μ => exact h
  | ok r μ =>
    simp only [Out.bind_ok] at h
    cases t with
    | false => exact h
    | true =>
      simp only [retT, if_true] at h
      cases q2 : truR r μ cl.scr with
      | none => rw [q2] at h; exact h.elim
      | some b =>
        rw [q2] at h
        exact fun w2 v g2 m2 rr _ => tru_any hf m2 rr.per q2 (h w2 (.bl b) g2 m2 rfl trivial)
/-- an own def's call -/
theorem se_call {x : Str} {p pos : Pos} {a : Expr} {as : List Expr} {es : List E} {i n : Nat} (hF : Facts g k cl nm) (hn : nm.fns[i]? = some (x, n)) (hl : (a :: as).length = n) (hg : fr.sc.names.lookup x = some .globalImplicit) (hdb : (x == ("__debug__" : Str)) = false)
    (he : ∀ env : PySem.Env, starEach (a :: as) env = (false, eval a env) :: starEach as env) (hpl : ∀ env : PySem.Env, (backTo pos (starEach as env)).any (·.1) = false) (iha : SA g k cl fr (a :: as) es) : SE g k cl fr (.Call (.Name x p) (a :: as) [] pos) (.call i es) := by
  intro X hf W hW t ρ μ w σ Q hm hρ hp
  simp only [evE] at hp
  obtain ⟨fa, fd, ps, hmg, hkeep, hb, hfn⟩ := hF.fns i x n hn
  have hfn' : FnOk X.prog X.w X.K X.mg X.base (L2.CX X.prog X.w) k fa fd ps (spOf g cl n i) := by rw [hf.x.prog, hf.x.wd, hf.x.K, hf.x.mg, hf.x.base]; exact hfn
  have hpe : PE X (.Call (.Name x p) (a :: as) [] pos) (tCallS (spOf g cl n i) (WE W) (wA X (a :: as))) :=
    pe_callS hfn' hf.room (by show X.env.scope.names.lookup x = _; rw [hf.sc]; exact hg) (by rw [hf.x.mg]; exact hmg) (by rw [hf.x.K]; exact hkeep) (by rw [hf.x.K]; exact hb) hW pa_w hdb (he _) (hpl _)
  refine wEt_T (fun _ _ => rfl) (wE_of hpe ?_)
  exact iha X hf W hW ρ μ w σ hm hρ (post_fin _ _ _ _) hp fun rs μ1 w1 vs hvl g1 m1 hrs hρ1 hp1 => ⟨by rw [hvl, hl], rs, μ1, w1, rfl, m1, hrs, retT_post hf hp1⟩
theorem se_call0 {x : Str} {p pos : Pos} {i : Nat} (hF : Facts g k cl nm) (hn : nm.fns[i]? = some (x, 0)) (hg : fr.sc.names.lookup x = some .globalImplicit) (hdb : (x == ("__debug__" : Str)) = false) : SE g k cl fr (.Call (.Name x p) [] [] pos) (.call0 i) := by
  intro X hf W hW t ρ μ w σ Q hm hρ hp
  simp only [evE] at hp
  obtain ⟨fa, fd, ps, hmg, hkeep, hb, hfn⟩ := hF.fns i x 0 hn
  have hfn' : FnOk X.prog X.w X.K X.mg X.base (L2.CX X.prog X.w) k fa fd ps (spOf g cl 0 i) := by rw [hf.x.prog, hf.x.wd, hf.x.K, hf.x.mg, hf.x.base]; exact hfn
  have hpe : PE X (.Call (.Name x p) [] [] pos) (tCall (spOf g cl 0 i) [] (fun _ _ _ => False) tNil) :=
    pe_call0 hfn' hf.room (by show X.env.scope.names.lookup x = _; rw [hf.sc]; exact hg) (by rw [hf.x.mg]; exact hmg) (by rw [hf.x.K]; exact hkeep) (by rw [hf.x.K]; exact hb) .nil (fun _ _ _ _ _ _ _ h => by
      obtain ⟨_, _, _, _, _, _, _, _, _, _, _, _, h⟩ := h
      exact h.elim) hdb
  refine wEt_T (fun _ _ => rfl) (wE_of hpe ?_)
  have h1 := retT_post hf hp
  refine ⟨rfl, [], μ, w, rfl, hm, rfl, ?_⟩
  cases q : cl.fn i [] μ with
  | bad => rw [q] at h1; exact h1
  | exc n μ1 => rw [q] at h1; exact h1.elim
  | ok r μ1 => rw [q] at h1; exact h1
/-! ### built-in functions -/
theorem se_bi {x : Str} {p pos : Pos} {a : Expr} {ea : E} {b : Bi} (hF : Facts g k cl nm) (hx : x ∈ bnames) (hv : bootBuiltins x = some (fnB b)) (hty : (∃ id, fnB b = .builtin id) ∨ ∃ T, fnB b = .type T) (hg : fr.sc.names.lookup x = some .globalImplicit) (hn : x ≠ "__name__") (hdb : (x == ("__debug__" : Str)) = false)
    (he : ∀ env : PySem.Env, starEach [a] env = (false, eval a env) :: starEach [] env) (iha : SE g k cl fr a ea) : SE g k cl fr (.Call (.Name x p) [a] [] pos) (.bi b ea) := by
  intro X hf W hW t ρ μ w σ Q hm hρ hp
  simp only [evE] at hp
  have hmg : X.mg x = none := by rw [hf.x.mg]; exact hF.bn x hx
  have hgl : Gl X x := by show X.env.scope.names.lookup x = _; rw [hf.sc]; exact hg
  have hpe : PE X (.Call (.Name x p) [a] [] pos) (tCB (wCall X (fnB b)) (tCons (wE X a) tNil)) := by
    rcases hty with ⟨id, e⟩ | ⟨T, e⟩
    · exact pe_callB (by rw [e]; exact callR_w _) hgl hmg (by rw [hv, e]) (pa_cons pe_w pa_nil (he _)) hn hdb (he _) rfl
    · exact pe_callTy (by rw [e]; exact callR_w _) hgl hmg (by rw [hv, e]) (pa_cons pe_w pa_nil (he _)) hn hdb (he _) rfl
  have nb : fnB b ≠ .none := by rcases hty with ⟨id, e⟩ | ⟨T, e⟩ <;> rw [e] <;> exact fun z => nomatch z
  refine wEt_B (fun _ _ => rfl) (wE_of hpe ?_)
  refine iha.bind hf hW hm hρ (post_fin _ _ _ _) hp fun r1 μ1 w1 v1 e1 g1 m1 rr1 f1 hρ1 hp1 => ?_
  show wCall X (fnB b) [v1] w1.H (QB t Q)
  unfold biR at hp1
  split at hp1
  · have hq := retB_post hp1
    obtain ⟨ad, rfl, hs⟩ := rr1
    refine wCall_of call_len_seq ⟨ad, cl.scr.map V.int, rfl, .inl (by rw [hf.x.K]; exact Evl.ex_l m1.sub hs), ?_⟩
    rw [List.length_map]
    exact post_p m1 hq rfl
  · obtain ⟨d, hd, hp2⟩ := onP_fin (bind_fin (post_fin g cl.scr (WE W σ) Q) _) hp1
    obtain ⟨r, er, hp3⟩ := of_fin (bind_fin (post_fin g cl.scr (WE W σ) Q) _) hp2
    exact bi_ok hf.x m1 nb er (asP_rep m1 rr1.per hd) (retB_post hp3)
theorem se_isi {x : Str} {p pc pos : Pos} {a : Expr} {ea : E} {c : String} (hF : Facts g k cl nm) (hx : x = ("isinstance" : Str)) (hcn : c = "int" ∨ c = "bool" ∨ c = "tuple" ∨ c = "list") (hg : fr.sc.names.lookup x = some .globalImplicit) (hgc : fr.sc.names.lookup (Str.ofString c) = some .globalImplicit)
    (he : ∀ (b : Expr) (env : PySem.Env), starEach [a, b] env = (false, eval a env) :: starEach [b] env) (iha : SE g k cl fr a ea) : SE g k cl fr (.Call (.Name x p) [a, .Name (Str.ofString c) pc] [] pos) (.bi (.isi (Str.ofString c)) ea) := by
  intro X hf W hW t ρ μ w σ Q hm hρ hp
  simp only [evE] at hp
  subst hx
  have hmg : X.mg ("isinstance" : Str) = none := by rw [hf.x.mg]; exact hF.bn _ (by decide +kernel)
  have hgl : Gl X ("isinstance" : Str) := by show X.env.scope.names.lookup _ = _; rw [hf.sc]; exact hg
  have hglc : Gl X (Str.ofString c) := by show X.env.scope.names.lookup _ = _; rw [hf.sc]; exact hgc
  have hpc : PE X (.Name (Str.ofString c) pc) (tC (.ty c)) := by
    rcases hcn with rfl | rfl | rfl | rfl
    · exact pe_bltn (u := .type "int") hglc (by rw [hf.x.mg]; exact hF.bn _ (by decide +kernel)) (by decide +kernel) rfl
    · exact pe_bltn (u := .type "bool") hglc (by rw [hf.x.mg]; exact hF.bn _ (by decide +kernel)) (by decide +kernel) rfl
    · exact pe_bltn (u := .type "tuple") hglc (by rw [hf.x.mg]; exact hF.bn _ (by decide +kernel)) (by decide +kernel) rfl
    · exact pe_bltn (u := .type "list") hglc (by rw [hf.x.mg]; exact hF.bn _ (by decide +kernel)) (by decide +kernel) rfl
  have hpe : PE X (.Call (.Name ("isinstance" : Str) p) [a, .Name (Str.ofString c) pc] [] pos) (tCB (wCall X (.builtin "isinstance")) (tCons (wE X a) (tCons (tC (.ty c)) tNil))) :=
    pe_callB (callR_w _) hgl hmg (by decide +kernel) (pa_cons pe_w (pa_cons hpc pa_nil) (he _ _)) (by decide) (by decide) (he _ _) rfl
  have key : wE X (.Call (.Name ("isinstance" : Str) p) [a, .Name (Str.ofString c) pc] [] pos) σ w.H (QB t Q) := by
    refine wE_of hpe ?_
    refine iha.bind hf hW hm hρ (post_fin _ _ _ _) hp fun r1 μ1 w1 v1 e1 g1 m1 rr1 f1 hρ1 hp1 => ?_
    show wCall X (.builtin "isinstance") [v1, .ty c] w1.H _
    have e : biR cl.scr (.isi (Str.ofString c)) r1 μ1 = onP r1 μ1 fun d => Out.of (biP (.isi (Str.ofString c)) [d]) μ1 := rfl
    rw [e] at hp1
    obtain ⟨d, hd, hp2⟩ := onP_fin (bind_fin (post_fin g cl.scr (WE W σ) Q) _) hp1
    obtain ⟨r, er, hp3⟩ := of_fin (bind_fin (post_fin g cl.scr (WE W σ) Q) _) hp2
    have e2 : biP (.isi (Str.ofString c)) [d] = (isiP (Str.ofString c) d).map fun b => Rv.p (.bl b) := rfl
    rw [e2] at er
    cases q2 : isiP (Str.ofString c) d with
    | none => rw [q2] at er; cases er
    | some b =>
      rw [q2] at er
      cases er
      exact isi_ok (scr := cl.scr) hf.x m1 q2 hcn (asP_rep m1 rr1.per hd) (retB_post hp3)
  exact wEt_B (fun _ _ => rfl) key
theorem se_bi2 {x : Str} {p pos : Pos} {a a' : Expr} {ea ea' : E} {b : Bi} (hF : Facts g k cl nm) (hx : x ∈ bnames) (hv : bootBuiltins x = some (fnB b)) (hty : ∃ id, fnB b = .builtin id) (hg : fr.sc.names.lookup x = some .globalImplicit) (hn : x ≠ "__name__") (hdb : (x == ("__debug__" : Str)) = false)
    (he : ∀ env : PySem.Env, starEach [a, a'] env = (false, eval a env) :: starEach [a'] env) (he' : ∀ env : PySem.Env, starEach [a'] env = (false, eval a' env) :: starEach [] env) (iha : SE g k cl fr a ea) (iha' : SE g k cl fr a' ea') : SE g k cl fr (.Call (.Name x p) [a, a'] [] pos) (.bi2 b ea ea') := by
  intro X hf W hW t ρ μ w σ Q hm hρ hp
  cases t with
  | true => exact (show False from hp).elim
  | false =>
    simp only [evE, Bool.false_eq_true, if_false] at hp
    obtain ⟨id, e⟩ := hty
    have hmg : X.mg x = none := by rw [hf.x.mg]; exact hF.bn x hx
    have hgl : Gl X x := by show X.env.scope.names.lookup x = _; rw [hf.sc]; exact hg
    have hpe : PE X (.Call (.Name x p) [a, a'] [] pos) (tCB (wCall X (fnB b)) (tCons (wE X a) (tCons (wE X a') tNil))) :=
      pe_callB (by rw [e]; exact callR_w _) hgl hmg (by rw [hv, e]) (pa_cons pe_w (pa_cons pe_w pa_nil (he' _)) (he _)) hn hdb (he _) (by rw [he' X.env]; rfl)
    refine wE_of hpe ?_
    refine iha.bind hf hW hm hρ (post_fin _ _ _ _) hp fun r1 μ1 w1 v1 _ g1 m1 rr1 f1 hρ1 hp1 => ?_
    refine iha'.bind hf hW m1 hρ1 (post_fin _ _ _ _) hp1 fun r2 μ2 w2 v2 _ g2 m2 rr2 f2 hρ2 hp2 => ?_
    show wCall X (fnB b) [v1, v2] w2.H Q
    obtain ⟨i, rfl, hp3⟩ := intR_fin (post_fin _ _ _ _) hp2
    obtain ⟨j, rfl, hp4⟩ := intR_fin (post_fin _ _ _ _) hp3
    obtain ⟨r, er, hq⟩ := ofPost hp4
    have e1 : v1 = .int i := rr1
    have e2 : v2 = .int j := rr2
    subst e1 e2
    exact bi2_ok hf.x m2 er hq
theorem strR_fin {Ek : XK} {β : Type} {Fin : Wd → Out β → Prop} (hF : FinOk g Ek Fin) {w : Wd} {x : Rv} {f : Str → Out β} (h : Fin w (strR x f)) : ∃ i, x = .p (.str i) ∧ Fin w (f i) := by
  unfold strR at h
  split at h
  · exact ⟨_, rfl, h⟩
  · exact (hF.bad _ h).elim
/-- a method of a text -/
theorem se_me {o a : Expr} {eo ea : E} {m : Me} {name : Str} {apos cpos : Pos} (slot : Slot "str" name (idM m)) (hty : typeOf (.builtin (idM m)) = pure (.type "method_descriptor")) (hbase : ∀ env : PySem.Env, attributeBase o name env (eval o env) = eval o env) (hline : (apos.endLine == cpos.line) = true)
    (he : ∀ env : PySem.Env, starEach [a] env = (false, eval a env) :: starEach [] env) (iho : SE g k cl fr o eo) (iha : SE g k cl fr a ea) : SE g k cl fr (.Call (.Attribute o name apos) [a] [] cpos) (.me m eo ea) := by
  intro X hf W hW t ρ μ w σ Q hm hρ hp
  simp only [evE] at hp
  have hpe : PE X (.Call (.Attribute o name apos) [a] [] cpos) (tBM X.K "str" (wMt X (idM m)) (wE X o) (tCons (wE X a) tNil)) :=
    pe_bm PySem.F.plainAttrs_str slot hty (mtR_w _) pe_w (pa_cons pe_w pa_nil (he _)) (hbase _) (by rw [he X.env]; rfl) hline (he _) rfl
  refine wEt_B (fun _ _ => rfl) (wE_of hpe ?_)
  refine iho.bind hf hW hm hρ (post_fin _ _ _ _) hp fun r1 μ1 w1 v1 _ g1 m1 rr1 f1 hρ1 hp1 => ?_
  obtain ⟨z, rfl, hp2⟩ := strR_fin (post_fin _ _ _ _) hp1
  have e1 : v1 = .str z := rr1
  subst e1
  refine ⟨rfl, ?_⟩
  refine iha.bind hf hW m1 hρ1 (post_fin _ _ _ _) hp2 fun r2 μ2 w2 v2 _ g2 m2 rr2 f2 hρ2 hp3 => ?_
  unfold meR at hp3
  obtain ⟨d, hd, hp4⟩ := onP_fin (bind_fin (post_fin g cl.scr (WE W σ) Q) _) hp3
  obtain ⟨r, er, hp5⟩ := of_fin (bind_fin (post_fin g cl.scr (WE W σ) Q) _) hp4
  exact (me_ok (scr := cl.scr) (o := .str z) hf.x m2 er rfl (asP_rep m2 rr2.per hd) (retB_post hp5)).2
/-- a subscript -/
theorem se_idx {a b : Expr} {ea eb : E} {pos : Pos} (hs : PlainIx b) (iha : SE g k cl fr a ea) (ihb : SE g k cl fr b eb) : SE g k cl fr (.Subscript a b pos) (.idx ea eb) := by
  intro X hf W hW t ρ μ w σ Q hm hρ hp
  simp only [evE] at hp
  refine wEt_B (fun _ _ => rfl) (wE_of (pe_ix ixR_w pe_w pe_w hs) ?_)
  refine iha.bind hf hW hm hρ (post_fin _ _ _ _) hp fun r1 μ1 w1 v1 _ g1 m1 rr1 f1 hρ1 hp1 => ?_
  refine ihb.bind hf hW m1 hρ1 (post_fin _ _ _ _) hp1 fun r2 μ2 w2 v2 _ g2 m2 rr2 f2 hρ2 hp2 => ?_
  unfold idxR at hp2
  split at hp2
  · rw [intR_bind] at hp2
    obtain ⟨i, rfl, hp3⟩ := intR_fin (post_fin _ _ _ _) hp2
    obtain ⟨r, er, hp4⟩ := of_fin (bind_fin (post_fin g cl.scr (WE W σ) Q) _) hp3
    cases q : atI cl.scr i with
    | none => rw [q] at er; cases er
    | some n =>
      rw [q] at er
      cases er
      obtain ⟨ad, rfl, hs'⟩ := (rr1.per.grow g2)
      have e2 : v2 = .int i := rr2
      subst e2
      have ea : atI (cl.scr.map V.int) i = some (.int n) := by
        unfold atI at q ⊢
        rw [List.length_map]
        cases q3 : ixN cl.scr.length i with
        | none => rw [q3] at q; cases q
        | some j =>
          rw [q3] at q
          show (cl.scr.map V.int)[j]? = _
          rw [List.getElem?_map]
          have q' : cl.scr[j]? = some n := q
          rw [q']
          rfl
      exact wIx_of ix_list ⟨ad, _, i, .int n, rfl, rfl, by rw [hf.x.K]; exact Evl.ex_l m2.sub hs', ea, post_p m2 (retB_post hp4) rfl⟩
  · obtain ⟨d, hd, hp3⟩ := onP_fin (bind_fin (post_fin g cl.scr (WE W σ) Q) _) hp2
    obtain ⟨e, he, hp4⟩ := onP_fin (bind_fin (post_fin g cl.scr (WE W σ) Q) _) hp3
    obtain ⟨r, er, hp5⟩ := of_fin (bind_fin (post_fin g cl.scr (WE W σ) Q) _) hp4
    cases q3 : idxP d e with
    | none => rw [q3] at er; cases er
    | some y =>
      rw [q3] at er
      cases er
      exact idx_ok hf.x m2 q3 (asP_rep m2 (rr1.per.grow g2) hd) (asP_rep m2 rr2.per he) (retB_post hp5)
/-- a slice's part -/
def SO (g : Gx) (k : Nat) (cl : Cl) (fr : FrI) (a : Option Expr) (e : Option E) : Prop :=
  ∀ X, FrOk g k fr X → ∀ W, TakesAt X W → ∀ (ρ : Env) (μ : Mu) (w : Wd) (σ : L2.St), OkM g μ w → EnvOk g cl.scr w ρ σ → ∀ {β : Type} {Fin : Wd → Out β → Prop}, FinOk g (WE W σ) Fin → ∀ {F : Option Int → Mu → Out β}, Fin w ((evO cl e ρ μ).bind F) →
    ∀ {Q : Option Int → Hp → Prop}, (∀ o μ1 w1, Grow w w1 → OkM g μ1 w1 → EnvOk g cl.scr w1 ρ σ → Fin w1 (F o μ1) → Q o w1.H) → wO X a σ w.H Q
theorem so_none : SO g k cl fr none none := by
  intro X hf W hW ρ μ w σ hm hρ β Fin hF F hp Q kq
  simp only [evO] at hp
  exact wO_of po_none (kq none μ w (Grow.refl w) hm hρ hp)
theorem so_some {a : Expr} {e : E} (ih : SE g k cl fr a e) : SO g k cl fr (some a) (some e) := by
  intro X hf W hW ρ μ w σ hm hρ β Fin hF F hp Q kq
  simp only [evO, Out.bind_assoc, intR_bind] at hp
  refine wO_of (po_some pe_w) ?_
  refine ih.bind hf hW hm hρ hF hp fun r1 μ1 w1 v1 _ g1 m1 rr1 f1 hρ1 hp1 => ?_
  obtain ⟨i, rfl, hp2⟩ := intR_fin hF hp1
  exact ⟨i, rr1, kq (some i) μ1 w1 g1 m1 hρ1 hp2⟩
theorem se_slc {a : Expr} {lo hi : Option Expr} {ea : E} {el eh : Option E} {p2 pos : Pos} (iha : SE g k cl fr a ea) (ihl : SO g k cl fr lo el) (ihh : SO g k cl fr hi eh) : SE g k cl fr (.Subscript a (.Slice lo hi none p2) pos) (.slc ea el eh) := by
  intro X hf W hW t ρ μ w σ Q hm hρ hp
  cases t with
  | true => exact (show False from hp).elim
  | false =>
    simp only [evE, Bool.false_eq_true, if_false] at hp
    refine wE_of (pe_slice slR_w pe_w po_w po_w) ?_
    refine iha.bind hf hW hm hρ (post_fin _ _ _ _) hp fun r1 μ1 w1 v1 _ g1 m1 rr1 f1 hρ1 hp1 => ?_
    refine ihl X hf W hW ρ μ1 w1 σ m1 hρ1 (post_fin _ _ _ _) hp1 fun l μ2 w2 g2 m2 hρ2 hp2 => ?_
    refine ihh X hf W hW ρ μ2 w2 σ m2 hρ2 (post_fin _ _ _ _) hp2 fun h μ3 w3 g3 m3 hρ3 hp3 => ?_
    obtain ⟨d, hd, hp4⟩ := onP_ok hp3
    obtain ⟨r, er, hq⟩ := ofPost hp4
    exact slc_ok hf.x m3 er (asP_rep m3 ((rr1.per.grow g2).grow g3) hd) hq
theorem se_lst {as : List Expr} {es : List E} {pos : Pos} (ih : SF g k cl fr as es) : SE g k cl fr (.List as pos) (.lst es) := by
  intro X hf W hW t ρ μ w σ Q hm hρ hp
  cases t with
  | true => exact (show False from hp).elim
  | false =>
    simp only [evE, Bool.false_eq_true, if_false] at hp
    refine wE_of (pe_lst pa_w) ?_
    refine ih X hf W hW ρ μ w σ hm hρ (post_fin _ _ _ _) hp fun ds μ1 w1 vs g1 m1 hrs hρ1 hp1 => ?_
    unfold lstR at hp1
    split at hp1
    · rename_i hz
      refine ⟨by rw [hrs.length]; exact size_le hz, fun p hpn => post_lst m1 (opPost hp1) hrs hpn⟩
    · exact hp1.elim
theorem se_tup {as : List Expr} {es : List E} {kk : Nat} {pos : Pos} (ih : SF g k cl fr as es) : SE g k cl fr (.Tuple as kk pos) (.tup es) := by
  intro X hf W hW t ρ μ w σ Q hm hρ hp
  cases t with
  | true => exact (show False from hp).elim
  | false =>
    simp only [evE, Bool.false_eq_true, if_false] at hp
    refine wE_of (pe_tup pa_w) ?_
    refine ih X hf W hW ρ μ w σ hm hρ (post_fin _ _ _ _) hp fun ds μ1 w1 vs g1 m1 hrs hρ1 hp1 => ?_
    unfold tupR at hp1
    split at hp1
    · rename_i hz
      refine ⟨by rw [hrs.length]; exact size_le hz, fun p hpn => post_tup m1 (opPost hp1) hrs hpn⟩
    · exact hp1.elim
theorem rgV_eq (i j : Int) : rgV i j = ((List.range (j - i).toNat).map fun k : Nat => P.int (i + k)).map (fun d => match d with | .int n => V.int n | _ => .non) := by
  unfold rgV
  rw [List.map_map]
  rfl
theorem reps_rg {H : Hp} (i : Int) : ∀ ks : List Nat, Reps g H (ks.map fun k : Nat => P.int (i + k)) (ks.map fun k : Nat => V.int (i + k))
  | [] => rfl
  | k :: ks => ⟨_, _, rfl, rfl, reps_rg i ks⟩
theorem se_lrng {a b : Expr} {ea eb : E} {p p2 pos pos2 : Pos} (hF : Facts g k cl nm) (hg : fr.sc.names.lookup ("list" : Str) = some .globalImplicit) (hg2 : fr.sc.names.lookup ("range" : Str) = some .globalImplicit)
    (na : ∀ env : PySem.Env, starEach [a, b] env = (false, eval a env) :: starEach [b] env) (nb : ∀ env : PySem.Env, starEach [b] env = (false, eval b env) :: starEach [] env) (iha : SE g k cl fr a ea) (ihb : SE g k cl fr b eb) : SE g k cl fr (.Call (.Name "list" p) [.Call (.Name "range" p2) [a, b] [] pos2] [] pos) (.lrng ea eb) := by
  intro X hf W hW t ρ μ w σ Q hm hρ hp
  cases t with
  | true => exact (show False from hp).elim
  | false =>
    simp only [evE, Bool.false_eq_true, if_false] at hp
    have hgl : Gl X ("list" : Str) := by show X.env.scope.names.lookup _ = _; rw [hf.sc]; exact hg
    have hgl2 : Gl X ("range" : Str) := by show X.env.scope.names.lookup _ = _; rw [hf.sc]; exact hg2
    refine wE_of (pe_listRg hf.x.calm hgl (by rw [hf.x.mg]; exact hF.bn _ (by decide +kernel)) (prg_2 hgl2 (by rw [hf.x.mg]; exact hF.bn _ (by decide +kernel)) pe_w pe_w (na _) (nb _) (by rw [nb X.env]; rfl))) ?_
    refine iha.bind hf hW hm hρ (post_fin _ _ _ _) hp fun r1 μ1 w1 v1 _ g1 m1 rr1 f1 hρ1 hp1 => ?_
    refine ihb.bind hf hW m1 hρ1 (post_fin _ _ _ _) hp1 fun r2 μ2 w2 v2 _ g2 m2 rr2 f2 hρ2 hp2 => ?_
    obtain ⟨i, rfl, hp3⟩ := intR_fin (post_fin _ _ _ _) hp2
    obtain ⟨j, rfl, hp4⟩ := intR_fin (post_fin _ _ _ _) hp3
    refine ⟨i, j, rr1, rr2, ?_⟩
    unfold rngP at hp4
    simp only at hp4
    split at hp4
    · rename_i hz
      simp only [Out.of, Out.bind_ok] at hp4
      unfold lstR at hp4
      split at hp4
      · rename_i hl
        rw [List.length_map, List.length_range] at hl
        have hl' : (j - i).toNat ≤ 1000000 := hl
        refine ⟨⟨by omega, by omega, by omega, by omega, by omega⟩, fun q hq => post_lst m2 (opPost hp4) (reps_rg i _) hq⟩
      · exact hp4.elim
    · exact hp4.elim
end
end R

set_option Elab.async false
set_option linter.all false
set_option maxRecDepth 100000
set_option maxHeartbeats 1000000
/-! # R7: targets, what is walked, comprehensions -/
namespace R
open PySem L2 PyProof.Rows PySem.W
/-! ### slots forgotten -/
theorem wipe_get : ∀ (σ : L2.St) (vs : List Nat) (j : Nat), (L2.wipe σ vs)[j]? = if j ∈ vs then (if j < σ.length then some none else none) else σ[j]?
  | σ, [], j => by simp [L2.wipe]
  | σ, v :: vs, j => by
    show ((L2.wipe σ vs).set v none)[j]? = _
    by_cases hj : v = j
    · subst hj
      by_cases hl : v < σ.length
      · rw [List.getElem?_set_self (by rw [L2.wipe_length]; exact hl)]
        simp [hl]
      · rw [List.getElem?_eq_none (by rw [List.length_set, L2.wipe_length]; omega)]
        simp [hl]
    · rw [List.getElem?_set_ne hj, wipe_get σ vs j]
      have : (j ∈ v :: vs) ↔ j ∈ vs := by simp [Ne.symm hj]
      simp only [this]
theorem wipe_set {σ : L2.St} {vs : List Nat} {i : Nat} {x : Option V} (h : i ∈ vs) : L2.wipe (σ.set i x) vs = L2.wipe σ vs := by
  apply List.ext_getElem?
  intro j
  rw [wipe_get, wipe_get, List.length_set]
  by_cases hj : j ∈ vs
  · rw [if_pos hj, if_pos hj]
  · have hne : i ≠ j := fun e => hj (by rw [← e]; exact h)
    rw [if_neg hj, if_neg hj, List.getElem?_set_ne hne]
theorem wipe_wipe (σ : L2.St) (vs : List Nat) : L2.wipe (L2.wipe σ vs) vs = L2.wipe σ vs := by
  apply List.ext_getElem?
  intro j
  rw [wipe_get, wipe_get, L2.wipe_length]
  by_cases hj : j ∈ vs
  · rw [if_pos hj, if_pos hj]
  · rw [if_neg hj]
theorem rwipe_get : ∀ (ρ : Env) (vs : List Nat) (j : Nat) (r : Rv), (R.wipe ρ vs)[j]? = some (some r) → ρ[j]? = some (some r) ∧ j ∉ vs
  | ρ, [], j, r, h => ⟨h, by simp⟩
  | ρ, v :: vs, j, r, h => by
    have h' : ((R.wipe ρ vs).set v none)[j]? = some (some r) := h
    by_cases hj : v = j
    · subst hj
      by_cases hl : v < (R.wipe ρ vs).length
      · rw [List.getElem?_set_self hl] at h'
        cases h'
      · rw [List.getElem?_eq_none (by rw [List.length_set]; omega)] at h'
        cases h'
    · rw [List.getElem?_set_ne hj] at h'
      obtain ⟨h1, h2⟩ := rwipe_get ρ vs j r h'
      exact ⟨h1, by simp [Ne.symm hj, h2]⟩
theorem rwipe_length (ρ : Env) : ∀ vs : List Nat, (R.wipe ρ vs).length = ρ.length
  | [] => rfl
  | v :: vs => by
    show ((R.wipe ρ vs).set v none).length = _
    rw [List.length_set, rwipe_length ρ vs]
section
variable {g : Gx} {scr : List Int} {w : Wd} {ρ : Env} {σ : L2.St}
theorem EnvOk.wipe (h : EnvOk g scr w ρ σ) (vs : List Nat) : EnvOk g scr w (R.wipe ρ vs) (L2.wipe σ vs) := ⟨by rw [rwipe_length, L2.wipe_length]; exact h.len, fun i r e => by
  obtain ⟨e1, e2⟩ := rwipe_get ρ vs i r e
  obtain ⟨n, v, e3, h3⟩ := h.get i r e1
  exact ⟨n, v, by rw [wipe_get, if_neg e2]; exact e3, h3⟩⟩
theorem EnvOk.set (h : EnvOk g scr w ρ σ) {i : Nat} {r : Rv} {v : V} (n : notN r) (hr : RPer g scr w r v) : EnvOk g scr w (ρ.set i (some r)) (σ.set i (some v)) := ⟨by rw [List.length_set, List.length_set]; exact h.len, fun j r' e => by
  by_cases hj : i = j
  · subst hj
    by_cases hi : i < ρ.length
    · rw [List.getElem?_set_self hi] at e
      cases e
      exact ⟨n, v, List.getElem?_set_self (by rw [← h.len]; exact hi), hr⟩
    · rw [List.getElem?_eq_none (by rw [List.length_set]; omega)] at e
      cases e
  · rw [List.getElem?_set_ne hj] at e
    obtain ⟨n', v', e', h'⟩ := h.get j r' e
    exact ⟨n', v', by rw [List.getElem?_set_ne hj]; exact e', h'⟩⟩
theorem EnvOk.unset (h : EnvOk g scr w ρ σ) {i : Nat} : EnvOk g scr w (ρ.set i none) (σ.set i none) := ⟨by rw [List.length_set, List.length_set]; exact h.len, fun j r' e => by
  by_cases hj : i = j
  · subst hj
    by_cases hi : i < ρ.length
    · rw [List.getElem?_set_self hi] at e
      cases e
    · rw [List.getElem?_eq_none (by rw [List.length_set]; omega)] at e
      cases e
  · rw [List.getElem?_set_ne hj] at e
    obtain ⟨n', v', e', h'⟩ := h.get j r' e
    exact ⟨n', v', by rw [List.getElem?_set_ne hj]; exact e', h'⟩⟩
end
/-! ### targets -/
/-- what a target does: to the slots as the language says; own: places of a block's own names -/
structure TgRun (g : Gx) (scr : List Int) (tup : Bool) (tg : List Nat) (G : TG) : Prop where
  run : ∀ (d : P) (v : V) (ρ ρ' : Env) (σ : L2.St) (w : Wd) (μ : Mu), OkM g μ w → setTg tup tg d ρ = some ρ' → Rep g w.Hb d v → EnvOk g scr w ρ σ → ∀ Q : L2.St → Hp → Prop,
    (∀ σ', EnvOk g scr w ρ' σ' → (∀ own : List Nat, (∀ i ∈ tg, i ∈ own) → L2.wipe σ' own = L2.wipe σ own) → Q σ' w.H) → G v σ w.H Q
def gTgs : List Nat → TGs
  | [] => gNil
  | i :: is => gCons (gName i) (gTgs is)
section
variable {g : Gx} {scr : List Int} {X : Cx}
theorem tg_name {i : Nat} : TgRun g scr false [i] (gName i) where
  run := fun d v ρ ρ' σ w μ hm e hr hρ Q hQ => by
    simp only [setTg] at e
    cases e
    exact hQ _ (hρ.set (r := .p d) trivial hr) fun own ho => wipe_set (ho i (by simp))
/-- the names of a tuple, one after another -/
inductive TgNames (X : Cx) : List Expr → List Nat → Prop where
  | nil : TgNames X [] []
  | cons {x : Str} {pos : Pos} {i : Nat} {es : List Expr} {is : List Nat} : X.N[i]? = some x → Loc X.env.scope x → (X.fn x = true ∨ X.env.scope.names.lookup x = some .local) → TgNames X es is → TgNames X (.Name x pos :: es) (i :: is)
theorem TgNames.pgs (hN : X.N.Nodup) {es : List Expr} {is : List Nat} (h : TgNames X es is) : PGs X es (gTgs is) := by
  induction h with
  | nil => exact pgs_nil
  | cons h1 h2 h3 _ ih => exact pgs_cons (pg_name hN h1 h2 h3) ih
theorem TgNames.len {es : List Expr} {is : List Nat} (h : TgNames X es is) : (assignEach es X.env).length = is.length ∧ (assignEach es X.env).findIdx? (·.1) = none := by
  induction h with
  | nil => exact ⟨rfl, rfl⟩
  | @cons x pos i es is h1 h2 h3 _ ih =>
    have e : assignEach (Expr.Name x pos :: es) X.env = (false, assign (.Name x pos) X.env) :: assignEach es X.env := rfl
    rw [e]
    refine ⟨by rw [List.length_cons, List.length_cons, ih.1], ?_⟩
    rw [List.findIdx?_cons, ih.2]
    rfl
theorem tgs_run {w : Wd} {μ : Mu} (hm : OkM g μ w) : ∀ (is : List Nat) (ds : List P) (vs : List V) (ρ : Env) (σ : L2.St), is.length = ds.length → Reps g w.Hb ds vs → EnvOk g scr w ρ σ → ∀ Q : L2.St → Hp → Prop,
    (∀ σ', EnvOk g scr w ((is.zip ds).foldl (fun ρ q => ρ.set q.1 (some (.p q.2))) ρ) σ' → (∀ own : List Nat, (∀ i ∈ is, i ∈ own) → L2.wipe σ' own = L2.wipe σ own) → Q σ' w.H) → gTgs is vs σ w.H Q := by
  intro is
  induction is with
  | nil =>
    intro ds vs ρ σ hl hr hρ Q hQ
    cases ds with
    | nil => exact ⟨hr, hQ σ hρ fun _ _ => rfl⟩
    | cons d ds => cases hl
  | cons i is ih =>
    intro ds vs ρ σ hl hr hρ Q hQ
    cases ds with
    | nil => cases hl
    | cons d ds =>
      obtain ⟨v, r, rfl, hd, hds⟩ := hr
      refine ⟨v, r, rfl, ?_⟩
      refine ih ds r (ρ.set i (some (.p d))) (σ.set i (some v)) (by simpa using hl) hds (hρ.set (r := .p d) trivial hd) Q fun σ' h' hw => ?_
      refine hQ σ' h' fun own ho => ?_
      rw [hw own fun j hj => ho j (List.mem_cons_of_mem _ hj), wipe_set (ho i List.mem_cons_self)]
theorem tg_tup_pg (hc : X.calm = true) (hN : X.N.Nodup) {es : List Expr} {is : List Nat} {kk : Nat} {pos : Pos} (h : TgNames X es is) : PG X (.Tuple es kk pos) (gTup X.K is.length (gTgs is)) := pg_tup hc (h.pgs hN) h.len.1 h.len.2
theorem tg_tup {is : List Nat} : TgRun g scr true is (gTup g.K is.length (gTgs is)) where
  run := fun d v ρ ρ' σ w μ hm e hr hρ Q hQ => by
    cases d with
    | tup ds =>
      simp only [setTg] at e
      split at e <;> cases e
      rename_i hl
      obtain ⟨p, vs, rfl, hp, hrs⟩ := hr
      exact ⟨p, vs, rfl, SqT.of (hm.sub _ _ hp), by rw [hrs.length, hl], tgs_run hm is ds vs ρ σ hl hrs hρ Q hQ⟩
    | _ => simp only [setTg] at e <;> cases e
end
/-! ### what is walked -/
structure WalksP (g : Gx) (w : Wd) (ds : List P) (J : It) : Prop where
  step : ∀ w' μ', Grow w w' → OkM g μ' w' → ∀ (i : Nat) d, ds[i]? = some d → J.go i w'.H ∧ ∀ x H'', J.yld i w'.H x H'' → H'' = w'.H ∧ Rep g w'.Hb d x
  stop : ∀ w' μ', Grow w w' → OkM g μ' w' → ∀ i, ds.length ≤ i → J.stop i w'.H
theorem WalksP.grow {g : Gx} {w w1 : Wd} {ds : List P} {J : It} (h : WalksP g w ds J) (gr : Grow w w1) : WalksP g w1 ds J :=
  ⟨fun w' μ' g' => h.step w' μ' (gr.trans g'), fun w' μ' g' => h.stop w' μ' (gr.trans g')⟩
section
variable {g : Gx} {w : Wd}
theorem walks_lst {K : PySem.W.Frag} {p : Addr} {ds : List P} {vs : List V} (hp : w.Hb p = some (.lst vs)) (hr : Reps g w.Hb ds vs) : WalksP g w ds (Itl K p) where
  step := fun w' μ' gr hm i d e => by
    obtain ⟨v, ev, hv⟩ := hr.get e
    have h1 : w'.H p = some (.lst vs) := hm.sub _ _ (gr.hb _ _ hp)
    refine ⟨⟨vs, v, SqL.of h1, ev⟩, fun x H'' ⟨e1, e2⟩ => ⟨e1, ?_⟩⟩
    have e3 := e2 vs (SqL.of h1)
    rw [ev] at e3
    cases e3
    exact Rep.mono gr.hb _ _ hv
  stop := fun w' μ' gr hm i hi => ⟨vs, SqL.of (hm.sub _ _ (gr.hb _ _ hp)), by rw [hr.length]; exact hi⟩
theorem walks_tup {K : PySem.W.Frag} {p : Addr} {ds : List P} {vs : List V} (hp : w.Hb p = some (.tup vs)) (hr : Reps g w.Hb ds vs) : WalksP g w ds (Itt K p) where
  step := fun w' μ' gr hm i d e => by
    obtain ⟨v, ev, hv⟩ := hr.get e
    have h1 : w'.H p = some (.tup vs) := hm.sub _ _ (gr.hb _ _ hp)
    refine ⟨⟨vs, v, SqT.of h1, ev⟩, fun x H'' ⟨e1, e2⟩ => ⟨e1, ?_⟩⟩
    have e3 := e2 vs (SqT.of h1)
    rw [ev] at e3
    cases e3
    exact Rep.mono gr.hb _ _ hv
  stop := fun w' μ' gr hm i hi => ⟨vs, SqT.of (hm.sub _ _ (gr.hb _ _ hp)), by rw [hr.length]; exact hi⟩
theorem walks_str (z : Str) : WalksP g w (z.cps.toList.map fun c => .str ⟨#[c]⟩) (Its z) where
  step := fun w' μ' gr hm i d e => by
    rw [List.getElem?_map] at e
    cases q : z.cps.toList[i]? with
    | none => rw [q] at e; cases e
    | some c =>
      rw [q] at e
      cases e
      have hi : i < z.cps.size := by
        have := (List.getElem?_eq_some_iff.mp q).1
        rw [Array.length_toList] at this
        exact this
      refine ⟨hi, fun x H'' ⟨e1, c', e2, e3⟩ => ⟨e1, ?_⟩⟩
      rw [Array.getElem?_toList] at q
      rw [q] at e2
      cases e2
      exact e3
  stop := fun w' μ' gr hm i hi => by
    rw [List.length_map, Array.length_toList] at hi
    exact hi
theorem walks_rg (lo : Int) (n : Nat) : WalksP g w ((List.range n).map fun k : Nat => .int (lo + k)) (Itr lo n) where
  step := fun w' μ' gr hm i d e => by
    rw [List.getElem?_map] at e
    cases q : (List.range n)[i]? with
    | none => rw [q] at e; cases e
    | some c =>
      rw [q] at e
      cases e
      obtain ⟨h1, h2⟩ := List.getElem?_eq_some_iff.mp q
      rw [List.length_range] at h1
      rw [List.getElem_range] at h2
      subst h2
      exact ⟨h1, fun x H'' ⟨e1, e2⟩ => ⟨e1, e2⟩⟩
  stop := fun w' μ' gr hm i hi => by
    rw [List.length_map, List.length_range] at hi
    exact hi
theorem walks_down (lo : Int) (n : Nat) : WalksP g w ((List.range n).map fun k : Nat => .int (lo - k)) (Itc lo (-1) n) where
  step := fun w' μ' gr hm i d e => by
    rw [List.getElem?_map] at e
    cases q : (List.range n)[i]? with
    | none => rw [q] at e; cases e
    | some c =>
      rw [q] at e
      cases e
      obtain ⟨h1, h2⟩ := List.getElem?_eq_some_iff.mp q
      rw [List.length_range] at h1
      rw [List.getElem_range] at h2
      subst h2
      refine ⟨h1, fun x H'' ⟨e1, e2⟩ => ⟨e1, ?_⟩⟩
      rw [e2]
      show V.int _ = V.int _
      congr 1
      omega
  stop := fun w' μ' gr hm i hi => by
    rw [List.length_map, List.length_range] at hi
    exact hi
end
def wI (X : Cx) (tg iter : Expr) : TI := fun σ H R => ∀ (pins : List (Addr × Obj)) (s : Shared), Inv X pins σ H s → wpAny (model X.prog X.w) X.A (eval iter X.env) (fun v s1 => wpAny (model X.prog X.w) X.A (pyIter v) (PIE X pins σ tg R) X.xe s1) X.xe s
theorem pi_w {X : Cx} {tg iter : Expr} : PI X tg iter (wI X tg iter) := ⟨fun pins s σ H R I h => h pins s I⟩
theorem wI_of {X : Cx} {tg iter : Expr} {ti : TI} {σ : L2.St} {H : Hp} {R : It → Hp → Prop} (h : PI X tg iter ti) (q : ti σ H R) : wI X tg iter σ H R := fun pins s I => h.run pins s σ H R I q
/-- the iterator of a value -/
def wIt (X : Cx) (tg : Expr) (x : V) (H : Hp) (R : It → Hp → Prop) : Prop := ∀ (pins : List (Addr × Obj)) (s : Shared) (σ : L2.St) (v : Value), Inv X pins σ H s → RelV x v → wpAny (model X.prog X.w) X.A (pyIter v) (PIE X pins σ tg R) X.xe s
theorem wI_val {X : Cx} {tg iter : Expr} {σ : L2.St} {H : Hp} {R : It → Hp → Prop} (h : wE X iter σ H fun x H1 => wIt X tg x H1 R) : wI X tg iter σ H R := fun pins s I =>
  thn (h pins s I) fun v s1 ⟨x, H1, I1, r1, q1⟩ => q1 pins s1 σ v I1 r1
theorem it_lst {X : Cx} {tg : Expr} {a : Addr} {xs : List V} {H : Hp} {R : It → Hp → Prop} (hq : H a = some (.lst xs)) (q : R (Itl X.K a) H) : wIt X tg (.ref a) H R := by
  intro pins s1 σ v I1 r1
  cases r1
  obtain ⟨its, rv, p, hz⟩ := I1.list (SqL.of hq)
  refine wpAny_pyIter_list p.isList ?_
  refine ⟨s1.heap.objs.size, [s1.heap.objs.size], _, _, H, rfl, I1.kept (t' := s1.toks) fun b o e => Heap.get?_push_of_some _ e, turn_list a _, ⟨_, Heap.get?_push_size _ rfl, rfl, rfl⟩, fun b hb => ?_, q⟩
  have e : b = s1.heap.objs.size := by simpa using hb
  subst e
  exact I1.fpOk (Nat.le_refl _) (I1.hok.fresh (Nat.le_refl _))
theorem it_tup {X : Cx} {tg : Expr} {a : Addr} {xs : List V} {H : Hp} {R : It → Hp → Prop} (hq : H a = some (.tup xs)) (q : R (Itt X.K a) H) : wIt X tg (.ref a) H R := by
  intro pins s1 σ v I1 r1
  cases r1
  obtain ⟨its, rv, p, hz⟩ := I1.tuple (SqT.of hq)
  refine wpAny_pyIter_tuple (show s1.heap.IsTuple a its.toArray from p) ?_
  refine ⟨s1.heap.objs.size, [s1.heap.objs.size], _, _, H, rfl, I1.kept (t' := s1.toks) fun b o e => Heap.get?_push_of_some _ e, turn_tuple a _, ⟨_, Heap.get?_push_size _ rfl, rfl, rfl⟩, fun b hb => ?_, q⟩
  have e : b = s1.heap.objs.size := by simpa using hb
  subst e
  exact I1.fpOk (Nat.le_refl _) (I1.hok.fresh (Nat.le_refl _))
theorem it_str {X : Cx} {tg : Expr} {x : Str} {H : Hp} {R : It → Hp → Prop} (q : R (Its x) H) : wIt X tg (.str x) H R := by
  intro pins s1 σ v I1 r1
  obtain ⟨t, rfl⟩ := r1
  cases ha : x.cps.all (· < 128)
  · exact wpAny_pyIter_wide ha (pi_one (tk := s1.toks) I1 _ (turn_str _ x t "str_iterator" (.inr rfl)) ⟨_, Heap.get?_push_size _ rfl, rfl, rfl⟩ q)
  · exact wpAny_pyIter_ascii ha (pi_one (tk := s1.toks) I1 _ (turn_str _ x t "str_ascii_iterator" (.inl rfl)) ⟨_, Heap.get?_push_size _ rfl, rfl, rfl⟩ q)
section
variable {g : Gx} {k : Nat} {cl : Cl} {fr : FrI} {nm : Nm}
/-- THE SENTENCE about what is walked -/
def SIt (g : Gx) (k : Nat) (cl : Cl) (fr : FrI) (rng : Bool) (a : Expr) (es : List E) : Prop :=
  ∀ X, FrOk g k fr X → ∀ W, TakesAt X W → ∀ (ρ : Env) (μ : Mu) (w : Wd) (σ : L2.St), OkM g μ w → EnvOk g cl.scr w ρ σ → ∀ {β : Type} {Fin : Wd → Out β → Prop}, FinOk g (WE W σ) Fin → ∀ {F : List P → Mu → Out β},
    Fin w ((if rng then (evIs cl es ρ μ).bind fun ns μ1 => Out.of (rngP ns) μ1 else (evFs cl es ρ μ).bind fun ds μ1 => Out.of (itemsP ds) μ1).bind F) →
    ∀ (tg : Expr) {R : It → Hp → Prop}, (∀ ds μ1 w1 J, Grow w w1 → OkM g μ1 w1 → EnvOk g cl.scr w1 ρ σ → WalksP g w1 ds J → Fin w1 (F ds μ1) → R J w1.H) → wI X tg a σ w.H R
theorem sit_val {a : Expr} {e : E} (ih : SE g k cl fr a e) : SIt g k cl fr false a [e] := by
  intro X hf W hW ρ μ w σ hm hρ β Fin hF F hp tg R kq
  simp only [Bool.false_eq_true, if_false, evFs, Out.bind_assoc, Out.bind_ok] at hp
  refine wI_val ?_
  refine ih.bind hf hW hm hρ hF hp fun r1 μ1 w1 v1 _ g1 m1 rr1 f1 hρ1 hp1 => ?_
  obtain ⟨d, μ2, w2, e2, g2, m2, h2, hp2⟩ := frzO_fin hF m1 rr1 hp1
  obtain ⟨ds, hds, hp3⟩ := of_fin (bind_fin hF _) hp2
  rw [← e2]
  unfold itemsP at hds
  split at hds
  · rename_i xs e3
    cases e3
    cases hds
    obtain ⟨p, vs, rfl, hpb, hr⟩ := h2
    exact it_lst (m2.sub _ _ hpb) (kq _ μ2 w2 _ (g1.trans g2) m2 (hρ1.grow g2) (walks_lst hpb hr) hp3)
  · rename_i xs e3
    cases e3
    cases hds
    obtain ⟨p, vs, rfl, hpb, hr⟩ := h2
    exact it_tup (m2.sub _ _ hpb) (kq _ μ2 w2 _ (g1.trans g2) m2 (hρ1.grow g2) (walks_tup hpb hr) hp3)
  · rename_i z e3
    cases e3
    cases hds
    have e4 : v1 = .str _ := h2
    subst e4
    exact it_str (kq _ μ2 w2 _ (g1.trans g2) m2 (hρ1.grow g2) (walks_str _) hp3)
  · cases hds
/-- no starred one -/
def Pl (a : Expr) : Prop := ∀ (r : List Expr) (env : PySem.Env), starEach (a :: r) env = (false, eval a env) :: starEach r env
theorem sit_rng1 {a : Expr} {e : E} {p pos : Pos} (hF0 : Facts g k cl nm) (hg : fr.sc.names.lookup ("range" : Str) = some .globalImplicit)
    (pa : Pl a) (ih : SI g k cl fr [a] [e]) : SIt g k cl fr true (.Call (.Name "range" p) [a] [] pos) [e] := by
  intro X hf W hW ρ μ w σ hm hρ β Fin hF F hp tg R kq
  simp only [if_true, Out.bind_assoc] at hp
  have hgl : Gl X ("range" : Str) := by show X.env.scope.names.lookup _ = _; rw [hf.sc]; exact hg
  have hmg : X.mg ("range" : Str) = none := by rw [hf.x.mg]; exact hF0.bn _ (by decide +kernel)
  refine wI_of (pi_range1 hgl hmg pa_w (pa [] _)) ?_
  refine ih X hf W hW ρ μ w σ hm hρ hF hp fun ns μ1 w1 hl g1 m1 hρ1 hp1 => ?_
  obtain ⟨ds, hds, hp2⟩ := of_fin (bind_fin hF _) hp1
  match ns, hl with
  | [b], _ =>
    refine ⟨b, rfl, ?_⟩
    simp only [rngP] at hds
    split at hds
    case isFalse => cases hds
    rename_i hb
    split at hds
    · rename_i hb0
      cases hds
      refine ⟨by omega, by omega, kq _ μ1 w1 _ g1 m1 hρ1 ?_ hp2⟩
      have := walks_rg (g := g) (w := w1) 0 b.toNat
      simp only [Int.zero_add] at this
      exact this
    · rename_i hb0
      cases hds
      refine ⟨by omega, by omega, ?_⟩
      have e0 : b.toNat = 0 := by omega
      rw [e0]
      exact kq _ μ1 w1 _ g1 m1 hρ1 (walks_rg (g := g) (w := w1) 0 0) hp2
theorem sit_rng2 {a b : Expr} {ea eb : E} {p pos : Pos} (hF0 : Facts g k cl nm) (hg : fr.sc.names.lookup ("range" : Str) = some .globalImplicit)
    (pa : Pl a) (pb : Pl b) (ih : SI g k cl fr [a, b] [ea, eb]) : SIt g k cl fr true (.Call (.Name "range" p) [a, b] [] pos) [ea, eb] := by
  intro X hf W hW ρ μ w σ hm hρ β Fin hF F hp tg R kq
  simp only [if_true, Out.bind_assoc] at hp
  have hgl : Gl X ("range" : Str) := by show X.env.scope.names.lookup _ = _; rw [hf.sc]; exact hg
  have hmg : X.mg ("range" : Str) = none := by rw [hf.x.mg]; exact hF0.bn _ (by decide +kernel)
  refine wI_of (pi_range2 hgl hmg pa_w (by rw [pa, pb]; rfl) (pb [] _)) ?_
  refine ih X hf W hW ρ μ w σ hm hρ hF hp fun ns μ1 w1 hl g1 m1 hρ1 hp1 => ?_
  obtain ⟨ds, hds, hp2⟩ := of_fin (bind_fin hF _) hp1
  match ns, hl with
  | [b, c], _ =>
    refine ⟨b, c, rfl, ?_⟩
    simp only [rngP] at hds
    split at hds <;> cases hds
    rename_i hb
    exact ⟨⟨by omega, by omega, by omega, by omega⟩, kq _ μ1 w1 _ g1 m1 hρ1 (walks_rg (g := g) (w := w1) b _) hp2⟩
theorem sit_rng3 {a b c : Expr} {ea eb ec : E} {p pos : Pos} (hF0 : Facts g k cl nm) (hg : fr.sc.names.lookup ("range" : Str) = some .globalImplicit)
    (pa : Pl a) (pb : Pl b) (pc : Pl c) (ih : SI g k cl fr [a, b, c] [ea, eb, ec]) : SIt g k cl fr true (.Call (.Name "range" p) [a, b, c] [] pos) [ea, eb, ec] := by
  intro X hf W hW ρ μ w σ hm hρ β Fin hF F hp tg R kq
  simp only [if_true, Out.bind_assoc] at hp
  have hgl : Gl X ("range" : Str) := by show X.env.scope.names.lookup _ = _; rw [hf.sc]; exact hg
  have hmg : X.mg ("range" : Str) = none := by rw [hf.x.mg]; exact hF0.bn _ (by decide +kernel)
  refine wI_of (pi_range3 hgl hmg pa_w (pa _ _) (by rw [pb, pc]; rfl)) ?_
  refine ih X hf W hW ρ μ w σ hm hρ hF hp fun ns μ1 w1 hl g1 m1 hρ1 hp1 => ?_
  obtain ⟨ds, hds, hp2⟩ := of_fin (bind_fin hF _) hp1
  match ns, hl with
  | [b, c, s], _ =>
    simp only [rngP] at hds
    split at hds <;> cases hds
    rename_i hb
    obtain ⟨h1, h2, rfl⟩ := hb
    exact ⟨b, c, -1, _, rfl, RgC.neg (by omega) (by omega) (by omega) (by omega), kq _ μ1 w1 _ g1 m1 hρ1 (walks_down (g := g) (w := w1) b _) hp2⟩
end
end R

set_option Elab.async false
set_option linter.all false
set_option maxRecDepth 100000
set_option maxHeartbeats 1000000
/-! # R8: comprehensions; a small dict read at once -/
namespace R
open PySem L2 PyProof.Rows PySem.W
/-- the frame of a block -/
def frB (fr : FrI) (scope : Scope) : FrI := ⟨fr.N, relS scope fr.sc, true, fun x => scope.names.lookup x == some .cell⟩
/-- nothing comes out -/
def W0 : WX := fun _ _ _ _ => False
theorem takes0 {X : Cx} : TakesAt X W0 := fun σ pins H s e s' I c => by
  obtain ⟨_, _, _, _, _, _, _, _, _, _, _, _, h⟩ := c
  exact h.elim
def wPts (X : Cx) (ifs : List Expr) : TT := fun σ H Q => ∀ (pins : List (Addr × Obj)) (s : Shared), Inv X pins σ H s →
  wpAny (model X.prog X.w) X.A (forIn ifs true fun c r => if r = true then do let ok ← isTrue c X.env (eval c X.env); pure (ForInStep.yield ok) else pure (ForInStep.yield r)) (TP X pins σ Q) X.xe s
theorem wPts_of {X : Cx} {ifs : List Expr} {t : TT} {σ : L2.St} {H : Hp} {Q : Bool → Hp → Prop} (h : PTs X ifs t) (q : t σ H Q) : wPts X ifs σ H Q := fun pins s I => h.run pins s σ H Q I q
def wPtsB (X : Cx) (scope : Scope) (ifs : List Expr) : TT := fun σ H Q => ∀ s0 H0 C c fp, wPts (X.blk s0 H0 scope (compEnvC scope c C X.env) fp) ifs σ H Q
def wEB (X : Cx) (scope : Scope) (elt : Expr) : TE := fun σ H Q => ∀ s0 H0 C c fp, wE (X.blk s0 H0 scope (compEnvC scope c C X.env) fp) elt σ H Q
theorem pts_B {X : Cx} {scope : Scope} {ifs : List Expr} (s : Shared) (H : Hp) (C : Addr) (c : List (Str × Addr)) (fp : List Addr) : PTs (X.blk s H scope (compEnvC scope c C X.env) fp) ifs (wPtsB X scope ifs) := ⟨fun pins s1 σ1 H1 Q1 I1 q1 => q1 s H C c fp pins s1 I1⟩
theorem pe_B {X : Cx} {scope : Scope} {elt : Expr} (s : Shared) (H : Hp) (C : Addr) (c : List (Str × Addr)) (fp : List Addr) : PE (X.blk s H scope (compEnvC scope c C X.env) fp) elt (wEB X scope elt) := ⟨fun pins s1 σ1 H1 Q1 I1 q1 => q1 s H C c fp pins s1 I1⟩
section
variable {g : Gx} {k : Nat} {cl : Cl} {fr : FrI} {nm : Nm}
theorem fr_blk {X : Cx} (hf : FrOk g k fr X) (scope : Scope) (s : Shared) (H : Hp) (C : Addr) (cl : List (Str × Addr)) (fp : List Addr) : FrOk g k (frB fr scope) (X.blk s H scope (compEnvC scope cl C X.env) fp) where
  x := ⟨hf.x.prog, hf.x.wd, hf.x.K, hf.x.mg, hf.x.base, hf.x.calm, hf.x.un⟩
  hN := hf.hN
  nd := hf.nd
  sc := by
    show relS scope X.env.scope = relS scope fr.sc
    rw [hf.sc]
  fn := rfl
  room := hf.room
  stk := fun h => nomatch h
/-- the tests of a clause -/
def SIf (g : Gx) (k : Nat) (cl : Cl) (fr : FrI) (as : List Expr) (es : List E) : Prop :=
  ∀ X, FrOk g k fr X → ∀ (ρ : Env) (μ : Mu) (w : Wd) (σ : L2.St) (b : Bool) (μ1 : Mu), OkM g μ w → EnvOk g cl.scr w ρ σ → evIf cl es ρ μ = .ok b μ1 → ∀ Q : Bool → Hp → Prop,
    (∀ w1, Grow w w1 → OkM g μ1 w1 → Q b w1.H) → wPts X as σ w.H Q
theorem sif_nil : SIf g k cl fr [] [] := by
  intro X hf ρ μ w σ b μ1 hm hρ he Q hq
  simp only [evIf] at he
  cases he
  exact wPts_of pts_nil (hq w (Grow.refl w) hm)
theorem sif_one {a : Expr} {e : E} (ih : SE g k cl fr a e) : SIf g k cl fr [a] [e] := by
  intro X hf ρ μ w σ b μ1 hm hρ he Q hq
  simp only [evIf] at he
  refine wPts_of (pts_one pt_w) ?_
  cases q : evE cl e true ρ μ with
  | bad => rw [q] at he; cases he
  | exc n m => rw [q] at he; cases he
  | ok r μ2 =>
    rw [q] at he
    simp only [Out.bind_ok] at he
    unfold blR at he
    split at he
    · rename_i b'
      cases he
      have h := ih X hf W0 takes0 true ρ μ w σ (fun v H' => ∀ b', v = .bl b' → Q b' H') hm hρ (by
        rw [q]
        intro w1 v gr m rr _ b' e
        have e1 : v = .bl b := rr
        rw [e1] at e
        cases e
        exact hq w1 gr m)
      have z : wT X a σ w.H (fun b H' => ∀ b', V.bl b = .bl b' → Q b' H') := h
      exact fun pins s I => thn (z pins s I) fun u s' ⟨H', J, q⟩ => ⟨H', J, q _ rfl⟩
    · cases he
/-- the body of a comprehension's turn -/
def turnC (cl : Cl) (elt : E) (tup : Bool) (tg : List Nat) (ifs : List E) (own : List Nat) (ρ : Env) (d : P) (μ : Mu) : Out (Option P) :=
  tgR tup tg d (R.wipe ρ own) fun ρ' => (evIf cl ifs ρ' μ).bind fun b μ1 =>
    if b then (evE cl elt false ρ' μ1).bind fun r μ2 => (frzO r μ2).bind fun y μ3 => .ok (some y) μ3 else .ok none μ1
theorem Grow.dn {w w' : Wd} (h : Grow w w') (p : List Addr) : Grow ⟨w.ι, w.Hb, w.H, p⟩ ⟨w'.ι, w'.Hb, w'.H, p⟩ := ⟨h.hb, h.io, h.keep, h.new, h.mon, rfl⟩
theorem OkM.dn {μ : Mu} {w : Wd} (h : OkM g μ w) {p : List Addr} (hp : ∀ a ∈ p, a ∈ w.pr) : OkM g μ ⟨w.ι, w.Hb, w.H, p⟩ :=
  ⟨h.sub, h.len, h.nd, fun k m e => by
    obtain ⟨a, ea, z⟩ := h.at_ k m e
    exact ⟨a, ea, by cases m <;> exact z⟩, fun a ha => h.pr a (hp a ha)⟩
theorem put_pr {μ : Mu} {w : Wd} (hm : OkM g μ w) {D : Addr} {vs : List V} (hD : D ∈ w.pr) : OkM g μ ⟨w.ι, w.Hb, upd w.H D (.lst vs), w.pr⟩ := by
  obtain ⟨d1, d2, d3⟩ := hm.pr D hD
  refine ⟨fun a o h => ?_, hm.len, hm.nd, fun j m ej => ?_, fun b hb => ?_⟩
  · show upd w.H D _ a = _
    have h' : w.Hb a = some o := h
    rw [upd_ne (fun q : a = D => by rw [q, d1] at h'; cases h')]
    exact hm.sub _ _ h
  · obtain ⟨b, eb, z⟩ := hm.at_ j m ej
    refine ⟨b, eb, ?_⟩
    have hbD : b ≠ D := fun q => d2 (by rw [← q]; exact List.mem_of_getElem? eb)
    cases m with
    | lst ys =>
      obtain ⟨z1, vs', z2, z3⟩ := z
      exact ⟨z1, vs', by show upd w.H D _ b = _; rw [upd_ne hbD]; exact z2, z3⟩
    | froz ys => exact z
  · obtain ⟨z1, z2, vs', z3⟩ := hm.pr b hb
    by_cases q : b = D
    · subst q
      exact ⟨z1, z2, vs, upd_same⟩
    · exact ⟨z1, z2, vs', by show upd w.H D _ b = _; rw [upd_ne q]; exact z3⟩
theorem Grow.at_pr {w w' : Wd} (h : Grow w w') {D : Addr} {vs : List V} (hD : w.H D = none) : Grow w ⟨w'.ι, w'.Hb, upd w'.H D (.lst vs), w'.pr⟩ :=
  ⟨h.hb, h.io, fun a o e hn => by
    show upd w'.H D _ a = _
    rw [upd_ne (ne_of_none e hD)]
    exact h.keep a o e hn, h.new, fun a e => by
    by_cases q : a = D
    · rw [q]; exact hD
    · have e' : upd w'.H D (.lst vs) a = none := e
      rw [upd_ne q] at e'
      exact h.mon a e', h.pr⟩
/-- what holds between two turns -/
structure LcI (g : Gx) (body : P → Mu → Out (Option P)) (ds xs : List P) (μ' : Mu) (w1 : Wd) (D : Addr) (i m : Nat) (H : Hp) : Prop where
  im : i + m = ds.length
  st : ∃ (w' : Wd) (μa : Mu) (acc : List P) (vs : List V) (ys : List P), w'.H = H ∧ w'.pr = D :: w1.pr ∧ OkM g μa w' ∧ Grow w1 ⟨w'.ι, w'.Hb, w'.H, w1.pr⟩ ∧ H D = some (.lst vs) ∧ Reps g w'.Hb acc vs ∧ acc.length ≤ i ∧ compL body (ds.drop i) μa = .ok ys μ' ∧ xs = acc ++ ys
theorem comp_run {elt tg iter : Expr} {ifs : List Expr} {scope : Scope} {own : List (Str × Nat)} {ee : E} {tup : Bool} {tgs : List Nat} {rng : Bool} {its : List E} {eifs : List E} {G : TG}
    (htr : TgRun g cl.scr tup tgs G) (hsub : ∀ i ∈ tgs, i ∈ own.map (·.2)) (iit : SIt g k cl fr rng iter its) (iif : SIf g k cl (frB fr scope) ifs eifs) (ie : SE g k cl (frB fr scope) elt ee)
    {X : Cx} (hf : FrOk g k fr X) {W : WX} (hW : TakesAt X W) {ρ : Env} {μ : Mu} {w : Wd} {σ : L2.St} {Q : VK} (hm : OkM g μ w) (hρ : EnvOk g cl.scr w ρ σ) (hp : Post g cl.scr w (WE W σ) Q (evE cl (.comp ee tup tgs rng its eifs (own.map (·.2))) false ρ μ)) :
    tLc (wI X tg iter) G (wPtsB X scope ifs) (wEB X scope elt) (own.map (·.2)) σ w.H Q := by
  simp only [evE, Bool.false_eq_true, if_false] at hp
  refine iit X hf W hW ρ μ w σ hm hρ (post_fin _ _ _ _) hp tg fun ds μ1 w1 J g1 m1 hρ1 hJ hp1 => ?_
  intro D hD
  -- what the turns come to
  unfold lenR at hp1
  split at hp1
  case isFalse => exact hp1.elim
  rename_i hlen
  have hp2 : Post g cl.scr w1 (WE W σ) Q ((compL (turnC cl ee tup tgs eifs (own.map (·.2)) ρ) ds μ1).noexc.bind fun xs μ3 => .ok (.p (.lst xs)) μ3) := hp1
  generalize hbody : turnC cl ee tup tgs eifs (own.map (·.2)) ρ = body at hp2
  cases hc : compL body ds μ1 with
  | bad => rw [hc] at hp2; exact hp2.elim
  | exc n m => rw [hc] at hp2; exact hp2.elim
  | ok xs μ' =>
    rw [hc] at hp2
    have hq : OpPost g cl.scr w1 μ' Q (.p (.lst xs)) := hp2
    refine ⟨LcI g body ds xs μ' w1 D, ⟨ds.length, ⟨by omega, ⟨w1.ι, w1.Hb, upd w1.H D (.lst []), D :: w1.pr⟩, μ1, [], [], xs, rfl, rfl, ?_, ?_, upd_same, rfl, Nat.le_refl _, hc, rfl⟩⟩, fun i m H hI => ?_⟩
    · obtain ⟨_, m2⟩ := new_H m1 (o := .lst []) hD
      refine ⟨m2.sub, m2.len, m2.nd, fun k m e => ?_, fun a ha => ?_⟩
      · obtain ⟨a, ea, z⟩ := m2.at_ k m e
        exact ⟨a, ea, by cases m <;> exact z⟩
      · rcases List.mem_cons.mp ha with e | e
        · rw [e]
          exact ⟨Hb_none m1 hD, fun h => m1.tracked h hD, [], upd_same⟩
        · exact m2.pr a e
    · exact (Grow.refl w1).at_pr hD
    · obtain ⟨him, w', μa, acc, vs, ys, rfl, epr, m', g', hDv, hacc, hle, hcl, rfl⟩ := hI
      have md : OkM g μa ⟨w'.ι, w'.Hb, w'.H, w1.pr⟩ := m'.dn fun a ha => by rw [epr]; exact List.mem_cons_of_mem _ ha
      by_cases hi : i < ds.length
      · right
        obtain ⟨d, hd⟩ : ∃ d, ds[i]? = some d := ⟨_, List.getElem?_eq_getElem hi⟩
        obtain ⟨hgo, hyl⟩ := hJ.step _ _ g' md i d hd
        refine ⟨hgo, LcI g body ds (acc ++ ys) μ' w1 D (i + 1) (m - 1), fun H' h => ⟨m - 1, by omega, h⟩, fun x H'' hy => ?_⟩
        obtain ⟨rfl, hx⟩ := hyl x H'' hy
        have edrop : ds.drop i = d :: ds.drop (i + 1) := by
          rw [List.drop_eq_getElem_cons hi]
          rw [List.getElem?_eq_getElem hi] at hd
          cases hd
          rfl
        rw [edrop] at hcl
        simp only [compL] at hcl
        cases hb : body d μa with
        | bad => rw [hb] at hcl; cases hcl
        | exc n mm => rw [hb] at hcl; cases hcl
        | ok xo μb =>
          rw [hb] at hcl
          simp only [Out.bind_ok] at hcl
          cases hr : compL body (ds.drop (i + 1)) μb with
          | bad => rw [hr] at hcl; cases hcl
          | exc n mm => rw [hr] at hcl; cases hcl
          | ok zs μc =>
            rw [hr] at hcl
            simp only [Out.bind_ok] at hcl
            rw [← hbody] at hb
            unfold turnC tgR at hb
            cases hs : setTg tup tgs d (R.wipe ρ (own.map (·.2))) with
            | none => rw [hs] at hb; cases hb
            | some ρ' =>
              rw [hs] at hb
              simp only at hb
              -- the target
              have gr1 : Grow w1 ⟨w'.ι, w'.Hb, w'.H, w1.pr⟩ := g'
              have hρ' : EnvOk g cl.scr w' ρ σ := by
                have h := hρ1.grow g'
                refine ⟨h.len, fun j r e => ?_⟩
                obtain ⟨n, v, e1, h1⟩ := h.get j r e
                exact ⟨n, v, e1, by cases r <;> exact h1⟩
              refine htr.run d x (R.wipe ρ (own.map (·.2))) ρ' (L2.wipe σ (own.map (·.2))) w' μa m' hs hx (hρ'.wipe _) _ ?_
              intro σ' hσ' hw
              refine ⟨by rw [hw _ hsub, wipe_wipe], ?_⟩
              intro s0 H0 C c fp
              have hfb := fr_blk hf scope s0 H0 C c fp
              cases ht : evIf cl eifs ρ' μa with
              | bad => rw [ht] at hb; cases hb
              | exc n mm => rw [ht] at hb; cases hb
              | ok b μd =>
                rw [ht] at hb
                simp only [Out.bind_ok] at hb
                refine iif _ hfb ρ' μa w' σ' b μd m' hσ' ht _ fun w2 g2 m2 => ?_
                have gd2 : Grow w1 ⟨w2.ι, w2.Hb, w2.H, w1.pr⟩ := g'.trans (g2.dn _)
                have hDi : D ∉ w'.ι := (m'.pr D (by rw [epr]; exact List.mem_cons_self)).2.1
                cases b with
                | false =>
                  rw [if_neg Bool.false_ne_true] at hb ⊢
                  cases hb
                  cases hcl
                  exact ⟨by omega, w2, _, acc, vs, _, rfl, g2.pr.trans epr, m2, gd2, g2.keep _ _ hDv hDi, Reps.mono g2.hb _ _ hacc, by omega, hr, rfl⟩
                | true =>
                  rw [if_pos rfl] at hb ⊢
                  intro s0 H0 C c fp
                  have hfb := fr_blk hf scope s0 H0 C c fp
                  cases he : evE cl ee false ρ' μd with
                  | bad => rw [he] at hb; cases hb
                  | exc n mm => rw [he] at hb; cases hb
                  | ok r μe =>
                    rw [he] at hb
                    simp only [Out.bind_ok] at hb
                    refine ie _ hfb W0 takes0 false ρ' μd w2 σ' _ m2 (hσ'.grow g2) ?_
                    rw [he]
                    intro w3 v g3 m3 rr3 f3
                    unfold frzO at hb
                    cases hz : frz r μe with
                    | none => rw [hz] at hb; cases hb
                    | some pr =>
                      obtain ⟨y, μf⟩ := pr
                      rw [hz] at hb
                      cases hb
                      cases hcl
                      obtain ⟨w4, e4, g4, m4, h4⟩ := frz_rep m3 rr3 hz
                      have g24 : Grow w' w4 := (g2.trans g3).trans g4
                      have hD4 : w4.H D = some (.lst vs) := g24.keep _ _ hDv hDi
                      have hpr4 : w4.pr = D :: w1.pr := g24.pr.trans epr
                      rw [← e4]
                      refine ⟨vs, hD4, by rw [hacc.length]; exact size_lt (by omega), by omega, ⟨w4.ι, w4.Hb, upd w4.H D (.lst (vs ++ [v])), w4.pr⟩, _, acc ++ [y], vs ++ [v], _, rfl, hpr4, ?_, ?_, upd_same, ?_, ?_, hr, ?_⟩
                      · exact put_pr m4 (by rw [hpr4]; exact List.mem_cons_self)
                      · exact ((g'.trans (g24.dn _)).at_pr (vs := vs ++ [v]) hD)
                      · exact (Reps.mono g24.hb _ _ hacc).append (Reps.one h4)
                      · rw [List.length_append, List.length_singleton]
                        omega
                      · rw [List.append_assoc]
                        rfl
      · left
        have e0 : ds.drop i = [] := List.drop_eq_nil_of_le (by omega)
        rw [e0] at hcl
        cases hcl
        rw [List.append_nil] at hq
        refine ⟨hJ.stop _ _ g' md i (by omega), ?_⟩
        obtain ⟨d1, d2, _⟩ := m'.pr D (by rw [epr]; exact List.mem_cons_self)
        obtain ⟨g5, m5⟩ := keep_Hb md hDv d1 d2 (m1.not_pr hD)
        exact hq ⟨w'.ι, upd w'.Hb D (.lst vs), w'.H, w1.pr⟩ _ (Grow.trans g' g5) m5 ⟨D, vs, rfl, upd_same, Reps.mono g5.hb _ _ hacc⟩ trivial
theorem blk_ok {scope : Scope} {own : List (Str × Nat)} {X : Cx} (hf : FrOk g k fr X) (ok : BlkOk fr.N fr.sc scope own) : BlkOk X.N X.env.scope scope own := by
  rw [hf.hN]
  have : X.env.scope = fr.sc := hf.sc
  rw [this]
  exact ok
theorem se_comp {elt tg iter : Expr} {ifs : List Expr} {scope : Scope} {own : List (Str × Nat)} {pos : Pos} {ee : E} {tup : Bool} {tgs : List Nat} {rng : Bool} {its : List E} {eifs : List E} {G : TG} (ok : BlkOk fr.N fr.sc scope own)
    (htg : ∀ X', FrOk g k (frB fr scope) X' → PG X' tg G) (htr : TgRun g cl.scr tup tgs G) (hsub : ∀ i ∈ tgs, i ∈ own.map (·.2)) (iit : SIt g k cl fr rng iter its) (iif : SIf g k cl (frB fr scope) ifs eifs) (ie : SE g k cl (frB fr scope) elt ee)
    (hs : ∀ env x, foldedSetIterable iter env x = pure x) : SE g k cl fr (.ListComp elt [⟨tg, iter, ifs, 0⟩] scope pos) (.comp ee tup tgs rng its eifs (own.map (·.2))) := by
  intro X hf W hW t ρ μ w σ Q hm hρ hp
  cases t with
  | true => exact (show False from hp).elim
  | false =>
    have h := comp_run (tg := tg) (own := own) htr hsub iit iif ie hf hW hm hρ hp
    refine wE_of (pe_lc hf.x.calm (by rw [hf.hN]; exact hf.nd) pi_w (blk_ok hf ok) (fun s H C c fp => htg _ (fr_blk hf scope s H C c fp)) pts_B pe_B (hs _)) h
end
end R

set_option Elab.async false
set_option linter.all false
set_option maxRecDepth 100000
set_option maxHeartbeats 1000000
/-! # R9: statements -/
namespace R
open PySem L2 PyProof.Rows PySem.W
section
variable (X : Cx)
def wS (a : Stmt) : TS := fun D σ H => ∀ (pins : List (Addr × Obj)) (s : Shared), Inv X pins σ H s → wpAny (model X.prog X.w) X.A (exec a X.env) (SP X pins D) X.xe s
def wSs (as : List Stmt) : TS := fun D σ H => ∀ (pins : List (Addr × Obj)) (s : Shared), Inv X pins σ H s → wpAny (model X.prog X.w) X.A (execs as X.env) (SP X pins D) X.xe s
end
section
variable {X : Cx} {a : Stmt} {as : List Stmt} {σ : L2.St} {H : Hp} {D : Ends}
theorem ps_w : PS X a (wS X a) := ⟨fun pins s σ H D I h => h pins s I⟩
theorem pss_w : PSs X as (wSs X as) := ⟨fun pins s σ H D I h => h pins s I⟩
theorem wS_of {t : TS} (h : PS X a t) (q : t D σ H) : wS X a D σ H := fun pins s I => h.run pins s σ H D I q
theorem wSs_of {t : TS} (h : PSs X as t) (q : t D σ H) : wSs X as D σ H := fun pins s I => h.run pins s σ H D I q
end
/-- fl: what is let out is let out at the slots of the start -/
def PostS (g : Gx) (scr : List Int) (fl : Bool) (σ : L2.St) (w : Wd) (W : WX) (D : Ends) : Out Fl → Prop
  | .bad => False
  | .ok (.nx ρ) μ => ∀ w' σ', Grow w w' → OkM g μ w' → EnvOk g scr w' ρ σ' → D.nx σ' w'.H
  | .ok (.rt r) μ => ∀ w' v, Grow w w' → OkM g μ w' → RRep g scr w' r v → Fresh w r v → D.rt v w'.H
  | .exc n μ => ∀ w' C σ', Grow w w' → OkM g μ w' → g.mg n = some (.ref C) → (fl = true → σ' = σ) → W (.ref C) none σ' w'.H
section
variable {g : Gx} {k : Nat} {cl : Cl} {fr : FrI} {nm : Nm}
theorem PostS.grow {scr : List Int} {fl : Bool} {σ : L2.St} {w w' : Wd} {W : WX} {D : Ends} {r : Out Fl} (gr : Grow w w') (h : PostS g scr fl σ w W D r) : PostS g scr fl σ w' W D r := by
  cases r with
  | bad => exact h
  | ok f μ =>
    cases f with
    | nx ρ => exact fun w2 σ' g2 m e => h w2 σ' (gr.trans g2) m e
    | rt r => exact fun w2 v g2 m rr f => h w2 v (gr.trans g2) m rr (f.back gr)
  | exc n μ => exact fun w2 C σ' g2 m e z => h w2 C σ' (gr.trans g2) m e z
theorem posts_fin (g : Gx) (scr : List Int) (fl : Bool) (σ : L2.St) (W : WX) (D : Ends) : FinOk g (WE W σ) (fun w r => PostS g scr fl σ w W D r) where
  bad := fun _ h => h
  exc := fun _ _ _ h w' C gr m e => h w' C σ gr m e fun _ => rfl
  grow := fun _ _ _ gr h => h.grow gr
/-- THE SENTENCE about a statement -/
def SS (fl : Bool) (g : Gx) (k : Nat) (cl : Cl) (fr : FrI) (a : Stmt) (s : S) : Prop :=
  ∀ X, FrOk g k fr X → PassesOwn (model X.prog X.w) X.A X.env X.xe → ∀ W, Takes X W → ∀ (ρ : Env) (μ : Mu) (w : Wd) (σ : L2.St) (D : Ends), OkM g μ w → EnvOk g cl.scr w ρ σ → PostS g cl.scr fl σ w W D (evS cl s ρ μ) → wS X a D σ w.H
def SSs (fl : Bool) (g : Gx) (k : Nat) (cl : Cl) (fr : FrI) (as : List Stmt) (ss : List S) : Prop :=
  ∀ X, FrOk g k fr X → PassesOwn (model X.prog X.w) X.A X.env X.xe → ∀ W, Takes X W → ∀ (ρ : Env) (μ : Mu) (w : Wd) (σ : L2.St) (D : Ends), OkM g μ w → EnvOk g cl.scr w ρ σ → PostS g cl.scr fl σ w W D (evSs cl ss ρ μ) → wSs X as D σ w.H
theorem PostS.weak {scr : List Int} {fl : Bool} {σ : L2.St} {w : Wd} {W : WX} {D : Ends} {r : Out Fl} (h : PostS g scr false σ w W D r) : PostS g scr fl σ w W D r := by
  cases r with
  | bad => exact h
  | ok f μ => cases f <;> exact h
  | exc n μ => exact fun w2 C σ' g2 m e _ => h w2 C σ' g2 m e fun z => nomatch z
theorem SS.weak {fl : Bool} {a : Stmt} {s : S} (h : SS true g k cl fr a s) : SS fl g k cl fr a s := fun X hf hp W tk ρ μ w σ D hm hρ hq => h X hf hp W tk ρ μ w σ D hm hρ (by
  cases fl with
  | true => exact hq
  | false => exact hq.weak)
theorem atk {X : Cx} {W : WX} (tk : Takes X W) : TakesAt X W := fun σ => passAt tk σ
theorem sss_nil : SSs true g k cl fr [] [] := by
  intro X hf hpo W tk ρ μ w σ D hm hρ hp
  simp only [evSs] at hp
  exact wSs_of pss_nil (hp w σ (Grow.refl w) hm hρ)
theorem sss_one {fl : Bool} {a : Stmt} {s : S} (h : SS fl g k cl fr a s) : SSs fl g k cl fr [a] [s] := by
  intro X hf hpo W tk ρ μ w σ D hm hρ hp
  refine wSs_of (pss_one ps_w) (h X hf hpo W tk ρ μ w σ D hm hρ ?_)
  simp only [evSs] at hp
  cases q : evS cl s ρ μ with
  | bad => rw [q] at hp; exact hp
  | exc n m => rw [q] at hp; exact hp
  | ok f m =>
    rw [q] at hp
    cases f <;> exact hp
theorem sss_cons {a : Stmt} {s : S} {as : List Stmt} {ss : List S} (h : SS false g k cl fr a s) (hs : SSs false g k cl fr as ss) : SSs false g k cl fr (a :: as) (s :: ss) := by
  intro X hf hpo W tk ρ μ w σ D hm hρ hp
  simp only [evSs] at hp
  refine wSs_of (pss_cons ps_w pss_w) (h X hf hpo W tk ρ μ w σ _ hm hρ ?_)
  cases q : evS cl s ρ μ with
  | bad => rw [q] at hp; exact hp
  | exc n m => rw [q] at hp; exact hp
  | ok f m =>
    rw [q] at hp
    cases f with
    | rt r => exact hp
    | nx ρ1 =>
      simp only [Out.bind_ok, thenF] at hp
      intro w1 σ1 g1 m1 hρ1
      refine hs X hf hpo W tk ρ1 m w1 σ1 D m1 hρ1 ?_
      have hp' := hp.grow g1
      cases q2 : evSs cl ss ρ1 m with
      | bad => rw [q2] at hp'; exact hp'
      | ok f2 m2 => rw [q2] at hp'; cases f2 <;> exact hp'
      | exc n m2 => rw [q2] at hp'; exact fun w2 C σ' g2 mm e _ => hp' w2 C σ' g2 mm e fun z => nomatch z
/-! ### a value comes into a slot -/
theorem Grow.join {w w1 : Wd} (gr : Grow w w1) {p : Addr} (hp : w.H p = none) : Grow w ⟨w1.ι ++ [p], w1.Hb, w1.H, w1.pr⟩ :=
  ⟨gr.hb, gr.io.trans (List.prefix_append _ _), gr.keep, fun a h => (List.mem_append.mp h).elim (gr.new a) fun e => by rw [List.mem_singleton.mp e]; exact .inr hp, gr.mon, gr.pr⟩
theorem sto_rep {scr : List Int} {w w1 : Wd} {μ : Mu} (gr : Grow w w1) (hm : OkM g μ w1) {r : Rv} {v : V} (h : RRep g scr w1 r v) (f : Fresh w r v) (al : Bool) :
    ∃ w2, w2.H = w1.H ∧ Grow w w2 ∧ OkM g (stoR al r μ).2 w2 ∧ notN (stoR al r μ).1 ∧ RPer g scr w2 (stoR al r μ).1 v := by
  cases r with
  | p d => cases al <;> exact ⟨w1, rfl, gr, hm, trivial, h⟩
  | o j => cases al <;> exact ⟨w1, rfl, gr, hm, trivial, h⟩
  | scr => cases al <;> exact ⟨w1, rfl, gr, hm, trivial, h⟩
  | n ds =>
    cases al with
    | false =>
      obtain ⟨w2, e2, g2, m2, h2⟩ := frz_rep (r := .n ds) hm h rfl
      exact ⟨w2, e2, gr.trans g2, m2, trivial, h2⟩
    | true =>
      obtain ⟨p, vs, rfl, h1, h2, h3, h5, h4⟩ := h
      refine ⟨⟨w1.ι ++ [p], w1.Hb, w1.H, w1.pr⟩, rfl, gr.join (f p rfl), join_ι hm h1 h2 h3 h5 h4, trivial, p, ?_, rfl⟩
      show (w1.ι ++ [p])[μ.length]? = _
      rw [List.getElem?_append_right (by rw [hm.len]; exact Nat.le_refl _), hm.len]
      simp
theorem asg_run {a : Expr} {e : E} {i : Nat} {al : Bool} (ih : SE g k cl fr a e) {fl : Bool} {X : Cx} (hf : FrOk g k fr X) {W : WX} (tk : Takes X W) {ρ : Env} {μ : Mu} {w : Wd} {σ : L2.St} {D : Ends} (hm : OkM g μ w) (hρ : EnvOk g cl.scr w ρ σ)
    (hp : PostS g cl.scr fl σ w W D (evS cl (.asg i al e) ρ μ)) : wE X a σ w.H (fun x H1 => gName i x σ H1 D.nx) := by
  simp only [evS] at hp
  refine ih X hf W (atk tk) false ρ μ w σ _ hm hρ ?_
  cases q : evE cl e false ρ μ with
  | bad => rw [q] at hp; exact hp
  | exc n m => rw [q] at hp; exact fun w' C gr m' e' => hp w' C σ gr m' e' fun _ => rfl
  | ok r m =>
    rw [q] at hp
    simp only [Out.bind_ok] at hp
    intro w1 v g1 m1 rr f
    obtain ⟨w2, e2, g2, m2, n2, h2⟩ := sto_rep g1 m1 rr f al
    rw [← e2]
    exact hp w2 _ g2 m2 ((hρ.grow g2).set n2 h2)
theorem lc_of {X : Cx} (hf : FrOk g k fr X) {x : Str} (h : fr.sc.names.lookup x = some .local ∨ (fr.sc.names.lookup x = some .cell ∧ fr.fnl x = true)) : L2.Loc X.env.scope x ∧ (X.fn x = true ∨ X.env.scope.names.lookup x = some .local) := by
  have e : X.env.scope = fr.sc := hf.sc
  unfold L2.Loc
  rw [e, hf.fn]
  rcases h with h | ⟨h, h'⟩
  · exact ⟨.inl h, .inr h⟩
  · exact ⟨.inr h, .inl h'⟩
/-- name = value -/
theorem ss_asg {a : Expr} {e : E} {i : Nat} {al : Bool} {x : Str} {px pos : Pos} (hi : fr.N[i]? = some x) (hx : fr.sc.names.lookup x = some .local ∨ (fr.sc.names.lookup x = some .cell ∧ fr.fnl x = true))
    (hs : ∀ env : PySem.Env, env.scope = fr.sc → swapsWith a (some (.Name x px)) pos.line env = pure false) (ih : SE g k cl fr a e) : SS true g k cl fr (.Assign [.Name x px] a pos) (.asg i al e) := by
  intro X hf hpo W tk ρ μ w σ D hm hρ hp
  obtain ⟨l1, l2⟩ := lc_of hf hx
  exact wS_of (ps_set (by rw [hf.hN]; exact hf.nd) (by rw [hf.hN]; exact hi) l1 pe_w (hs _ hf.sc) l2) (asg_run ih hf tk hm hρ hp)
/-- name = [..] on one line -/
theorem ss_asgc {elt tg iter : Expr} {ifs : List Expr} {scope : Scope} {own : List (Str × Nat)} {cpos : Pos} {ee : E} {tup : Bool} {tgs : List Nat} {rng : Bool} {its : List E} {eifs : List E} {G : TG} {i : Nat} {al : Bool} {x : Str} {px pos : Pos}
    (ok : BlkOk fr.N fr.sc scope own) (htg : ∀ X', FrOk g k (frB fr scope) X' → PG X' tg G) (htr : TgRun g cl.scr tup tgs G) (hsub : ∀ i ∈ tgs, i ∈ own.map (·.2)) (iit : SIt g k cl fr rng iter its) (iif : SIf g k cl (frB fr scope) ifs eifs) (ie : SE g k cl (frB fr scope) elt ee)
    (hsf : ∀ env x, foldedSetIterable iter env x = pure x) (hi : fr.N[i]? = some x) (hx : fr.sc.names.lookup x = some .local)
    (hs : ∀ env : PySem.Env, env.scope = fr.sc → swapsWith (.ListComp elt [⟨tg, iter, ifs, 0⟩] scope cpos) (some (.Name x px)) pos.line env = pure true) :
    SS true g k cl fr (.Assign [.Name x px] (.ListComp elt [⟨tg, iter, ifs, 0⟩] scope cpos) pos) (.asg i al (.comp ee tup tgs rng its eifs (own.map (·.2)))) := by
  intro X hf hpo W tk ρ μ w σ D hm hρ hp
  have hsc : X.env.scope = fr.sc := hf.sc
  have hx' : X.env.scope.names.lookup x = some .local := by rw [hsc]; exact hx
  refine wS_of (ps_setLc hf.x.calm (by rw [hf.hN]; exact hf.nd) (by rw [hf.hN]; exact hi) hx' (hs _ hsc) pi_w (blk_ok hf ok) (fun s H C c fp => htg _ (fr_blk hf scope s H C c fp))
    pts_B pe_B (hsf _)) ?_
  refine comp_run (tg := tg) (own := own) htr hsub iit iif ie hf (atk tk) hm hρ ?_
  simp only [evS] at hp
  cases q : evE cl (.comp ee tup tgs rng its eifs (own.map (·.2))) false ρ μ with
  | bad => rw [q] at hp; exact hp
  | exc n m => rw [q] at hp; exact fun w' C gr m' e' => hp w' C σ gr m' e' fun _ => rfl
  | ok r m =>
    rw [q] at hp
    simp only [Out.bind_ok] at hp
    intro w1 v g1 m1 rr f
    obtain ⟨w2, e2, g2, m2, n2, h2⟩ := sto_rep g1 m1 rr f al
    rw [← e2]
    exact hp w2 _ g2 m2 ((hρ.grow g2).set n2 h2)
theorem dataR_fin {Ek : XK} {β : Type} {Fin : Wd → Out β → Prop} (hF : FinOk g Ek Fin) {w : Wd} {x : Rv} {f : P → Out β} (h : Fin w (dataR x f)) : ∃ d, x = .p d ∧ Fin w (f d) := by
  unfold dataR at h
  split at h
  · exact ⟨_, rfl, h⟩
  · exact (hF.bad _ h).elim
/-- a, b, .. = value -/
theorem ss_unp {es : List Expr} {a : Expr} {e : E} {is : List Nat} {kk : Nat} {pt pos : Pos} (hn : ∀ X, FrOk g k fr X → TgNames X es is) (hs : ∀ env : PySem.Env, swapsWithSole [.Tuple es kk pt] a pos.line env = pure false) (hw : ∀ env : PySem.Env, swappedStores [.Tuple es kk pt] a env = pure none)
    (ih : SE g k cl fr a e) : SS true g k cl fr (.Assign [.Tuple es kk pt] a pos) (.unp is e) := by
  intro X hf hpo W tk ρ μ w σ D hm hρ hp
  simp only [evS] at hp
  refine wS_of (ps_asg pe_w (tg_tup_pg hf.x.calm (by rw [hf.hN]; exact hf.nd) (hn X hf)) (hs _) (hw _) rfl) ?_
  refine ih.bind hf (atk tk) hm hρ (posts_fin _ _ _ _ _ _) hp fun r1 μ1 w1 v1 _ g1 m1 rr1 f1 hρ1 hp1 => ?_
  obtain ⟨d, rfl, hp2⟩ := dataR_fin (posts_fin _ _ _ _ _ _) hp1
  unfold tgR at hp2
  split at hp2
  · rename_i ρ1 e1
    rw [hf.x.K]
    exact tg_tup.run d v1 ρ ρ1 σ w1 μ1 m1 e1 rr1 hρ1 _ fun σ' h' _ => hp2 w1 σ' (Grow.refl _) m1 h'
  · exact hp2.elim
/-- a, b = x, y -/
theorem ss_par {x y : Str} {a b : Expr} {ea eb : E} {i j : Nat} {px py pt pt2 pos : Pos} {kt k2 : Nat} (hi : fr.N[i]? = some x) (hj : fr.N[j]? = some y) (hij : i ≠ j) (hx : fr.sc.names.lookup x = some .local) (hy : fr.sc.names.lookup y = some .local)
    (pa : Pl a) (pb : Pl b) (hw : ∀ env : PySem.Env, env.scope = fr.sc → swappedStores [.Tuple [.Name x px, .Name y py] kt pt] (.Tuple [a, b] k2 pt2) env = pure (some [x, y]))
    (iha : SE g k cl fr a ea) (ihb : SE g k cl fr b eb) : SS true g k cl fr (.Assign [.Tuple [.Name x px, .Name y py] kt pt] (.Tuple [a, b] k2 pt2) pos) (.par i j ea eb) := by
  intro X hf hpo W tk ρ μ w σ D hm hρ hp
  simp only [evS] at hp
  have hsc : X.env.scope = fr.sc := hf.sc
  refine wS_of (ps_par hf.x.calm (by rw [hf.hN]; exact hf.nd) (by rw [hf.hN]; exact hi) (by rw [hf.hN]; exact hj) hij (by rw [hsc]; exact hx) (by rw [hsc]; exact hy) (pa_cons pe_w (pa_cons pe_w pa_nil (pb _ _)) (pa _ _)) (hw _ hsc) rfl) ?_
  refine iha.bind hf (atk tk) hm hρ (posts_fin _ _ _ _ _ _) hp fun r1 μ1 w1 v1 _ g1 m1 rr1 f1 hρ1 hp1 => ?_
  refine ihb.bind hf (atk tk) m1 hρ1 (posts_fin _ _ _ _ _ _) hp1 fun r2 μ2 w2 v2 _ g2 m2 rr2 f2 hρ2 hp2 => ?_
  obtain ⟨d, rfl, hp3⟩ := dataR_fin (posts_fin _ _ _ _ _ _) hp2
  obtain ⟨e, rfl, hp4⟩ := dataR_fin (posts_fin _ _ _ _ _ _) hp3
  exact ⟨v1, v2, rfl, hp4 w2 _ (Grow.refl _) m2 ((hρ2.set (r := .p d) trivial (Rep.mono g2.hb _ _ rr1)).set (r := .p e) trivial rr2)⟩
end
end R

set_option Elab.async false
set_option linter.all false
set_option maxRecDepth 100000
set_option maxHeartbeats 1000000
/-! # R10: the other statements -/
namespace R
open PySem L2 PyProof.Rows PySem.W
section
variable {g : Gx} {k : Nat} {cl : Cl} {fr : FrI} {nm : Nm}
theorem objR_fin {Ek : XK} {β : Type} {Fin : Wd → Out β → Prop} (hF : FinOk g Ek Fin) {w : Wd} {x : Rv} {μ : Mu} {f : Nat → List P → Out β} (h : Fin w (objR x μ f)) : ∃ n xs, x = .o n ∧ μ[n]? = some (.lst xs) ∧ Fin w (f n xs) := by
  unfold objR at h
  split at h
  · split at h
    · exact ⟨_, _, rfl, by assumption, h⟩
    · exact (hF.bad _ h).elim
  · exact (hF.bad _ h).elim
theorem ixR_fin {Ek : XK} {β : Type} {Fin : Wd → Out β → Prop} (hF : FinOk g Ek Fin) {w : Wd} {xs : List P} {i : Int} {f : Nat → Out β} (h : Fin w (ixR xs i f)) : ∃ j, L2.ixN xs.length i = some j ∧ Fin w (f j) := by
  unfold ixR at h
  split at h
  · exact ⟨_, by assumption, h⟩
  · exact (hF.bad _ h).elim
/-- the list of the store that a value is -/
theorem obj_rep {scr : List Int} {w : Wd} {μ : Mu} (hm : OkM g μ w) {n : Nat} {xs : List P} {v : V} (h : RPer g scr w (.o n) v) (e : μ[n]? = some (.lst xs)) : ∃ a vs, v = .ref a ∧ w.ι[n]? = some a ∧ w.H a = some (.lst vs) ∧ Reps g w.Hb xs vs := by
  obtain ⟨a, ea, rfl⟩ := h
  obtain ⟨_, vs, h1, h2⟩ := hm.obj e ea
  exact ⟨a, vs, rfl, ea, h1, h2⟩
/-- o[k] = e -/
theorem ss_seti {o i a : Expr} {eo ei ea : E} {sp pos : Pos} (hs : ∀ env : PySem.Env, swapsWithSole [.Subscript o i sp] a pos.line env = pure false) (hst : ∀ (env : PySem.Env) v, assign (.Subscript o i sp) env v = (do
      let ov ← holding [v] (eval o env)
      let iv ← holding [v, ov] (eval i env)
      standAt sp
      holding [v, ov, iv] (setItem ov iv v)
      release [v, ov, iv] [])) (iho : SE g k cl fr o eo) (ihi : SE g k cl fr i ei) (iha : SE g k cl fr a ea) :
    SS true g k cl fr (.Assign [.Subscript o i sp] a pos) (.seti eo ei ea) := by
  intro X hf hpo W tk ρ μ w σ D hm hρ hp
  simp only [evS] at hp
  refine wS_of (ps_asg pe_w (pg_sub pe_w pe_w set_list (hst _)) (hs _) rfl rfl) ?_
  refine iha.bind hf (atk tk) hm hρ (posts_fin _ _ _ _ _ _) hp fun r1 μ1 w1 v1 _ g1 m1 rr1 f1 hρ1 hp1 => ?_
  refine iho.bind hf (atk tk) m1 hρ1 (posts_fin _ _ _ _ _ _) hp1 fun r2 μ2 w2 v2 _ g2 m2 rr2 f2 hρ2 hp2 => ?_
  refine ihi.bind hf (atk tk) m2 hρ2 (posts_fin _ _ _ _ _ _) hp2 fun r3 μ3 w3 v3 _ g3 m3 rr3 f3 hρ3 hp3 => ?_
  unfold setiR at hp3
  obtain ⟨d, rfl, hp4⟩ := dataR_fin (posts_fin _ _ _ _ _ _) hp3
  obtain ⟨n, xs, rfl, en, hp5⟩ := objR_fin (posts_fin _ _ _ _ _ _) hp4
  obtain ⟨z, rfl, hp6⟩ := intR_fin (posts_fin _ _ _ _ _ _) hp5
  obtain ⟨j, ej, hp7⟩ := ixR_fin (posts_fin _ _ _ _ _ _) hp6
  obtain ⟨l, vs, rfl, el, hl, hr⟩ := obj_rep m3 (rr2.per.grow g3) en
  have e3 : v3 = .int z := rr3
  subst e3
  refine ⟨l, vs, z, j, rfl, rfl, hl, by rw [hr.length]; exact ej, ?_⟩
  obtain ⟨g4, m4⟩ := put_ι m3 en el (hr.set j (Rep.mono g3.hb _ _ (Rep.mono g2.hb _ _ rr1)))
  exact hp7 _ σ g4 m4 (hρ3.grow g4)
/-- o[k], of a list, by values -/
def gList : V → V → Hp → VK → Prop := fun o i H Q => ∃ p xs z v, o = .ref p ∧ i = .int z ∧ H p = some (.lst xs) ∧ atI xs z = some v ∧ Q v H
theorem get_list {X : Cx} : PGet X gList := by
  intro pins s σ H x y v u Q I rx ry h
  obtain ⟨p, xs, i, z, rfl, rfl, hq, he, q⟩ := h
  cases rx
  obtain ⟨t, rfl⟩ := ry
  obtain ⟨its, r, pl, hz⟩ := I.list (SqL.of hq)
  obtain ⟨j, h1, h2, h3, h4, h5⟩ := atI_get he
  obtain ⟨w, ew, rw'⟩ := r.get h2
  have hl := r.length
  have hn := line63
  have fin : EP X pins σ Q w s := ⟨z, H, I, rw', q⟩
  by_cases h0 : 0 ≤ i
  · have hj : i.toNat = j := by
      rw [seqIndex_of h0 h5] at h1
      exact Option.some.inj h1
    exact wpAny_getItem_list pl.isList h0 (by omega) (by rw [hj]; simpa using ew) fin
  · have hj : (i + (its.toArray.size : Int)).toNat = j := by
      rw [seqIndex_neg (by omega) h4] at h1
      rw [List.size_toArray, ← hl]
      exact Option.some.inj h1
    exact wpAny_getItem_list_neg pl.isList (by omega) (by rw [List.size_toArray] <;> omega) (by omega) (by rw [hj]; simpa using ew) fin
theorem atI_of {α : Type} {xs : List α} {i : Int} {j : Nat} {x : α} (h : L2.ixN xs.length i = some j) (e : xs[j]? = some x) : atI xs i = some x := by
  unfold atI
  rw [h]
  exact e
theorem aug_op {X : Cx} {op : Operator} {a b c : Int} (h : augO op a b = some c) : ∃ ti : TIp, PIp X op ti ∧ ∀ H Q, Q (.int c) H → ti (.int a) (.int b) H Q := by
  unfold augO at h
  split at h <;> cases h
  · exact ⟨_, ip_add, fun H Q q => ⟨a, b, rfl, rfl, q⟩⟩
  · exact ⟨_, ip_sub, fun H Q q => ⟨a, b, rfl, rfl, q⟩⟩
def wIp (X : Cx) (op : Operator) : TIp := fun x y H Q => ∀ (pins : List (Addr × Obj)) (s : Shared) (σ : L2.St) (v u : Value), Inv X pins σ H s → RelV x v → RelV y u → wpAny (model X.prog X.w) X.A (inplaceOp op v u) (EP X pins σ Q) X.xe s
theorem ip_w {X : Cx} {op : Operator} : PIp X op (wIp X op) := fun pins s σ H x y v u Q I rx ry h => h pins s σ v u I rx ry
/-- o[k] op= e -/
theorem ss_augi {o i a : Expr} {eo ei ea : E} {op : Operator} {sp pos : Pos} (hst : ∀ ov iv new, augStore i ov iv new = (do holding [new, ov, iv] (setItem ov iv new); release [new, ov, iv] []; pure .next)) (iho : SE g k cl fr o eo) (ihi : SE g k cl fr i ei) (iha : SE g k cl fr a ea) :
    SS true g k cl fr (.AugAssign (.Subscript o i sp) op a pos) (.augi op eo ei ea) := by
  intro X hf hpo W tk ρ μ w σ D hm hρ hp
  simp only [evS] at hp
  refine wS_of (ps_augS pe_w pe_w get_list pe_w (ip_w (op := op)) set_list hst) ?_
  refine iho.bind hf (atk tk) hm hρ (posts_fin _ _ _ _ _ _) hp fun r1 μ1 w1 v1 _ g1 m1 rr1 f1 hρ1 hp1 => ?_
  refine ihi.bind hf (atk tk) m1 hρ1 (posts_fin _ _ _ _ _ _) hp1 fun r2 μ2 w2 v2 _ g2 m2 rr2 f2 hρ2 hp2 => ?_
  unfold augR1 at hp2
  obtain ⟨n, xs, rfl, en, hp3⟩ := objR_fin (posts_fin _ _ _ _ _ _) hp2
  obtain ⟨z, rfl, hp4⟩ := intR_fin (posts_fin _ _ _ _ _ _) hp3
  obtain ⟨j, ej, hp5⟩ := ixR_fin (posts_fin _ _ _ _ _ _) hp4
  split at hp5
  case h_2 => exact hp5.elim
  rename_i b eb
  obtain ⟨l, vs, rfl, el, hl, hr⟩ := obj_rep m2 (rr1.per.grow g2) en
  have e2 : v2 = .int z := rr2
  subst e2
  obtain ⟨vb, evb, hvb⟩ := hr.get eb
  have e4 : vb = .int b := hvb
  subst e4
  refine ⟨l, vs, z, _, rfl, rfl, hl, atI_of (by rw [hr.length]; exact ej) evb, ?_⟩
  refine iha.bind hf (atk tk) m2 hρ2 (posts_fin _ _ _ _ _ _) hp5 fun r3 μ3 w3 v3 _ g3 m3 rr3 f3 hρ3 hp6 => ?_
  unfold augR2 at hp6
  obtain ⟨c, rfl, hp7⟩ := intR_fin (posts_fin _ _ _ _ _ _) hp6
  obtain ⟨n', ys, en', ey, hp8⟩ := objR_fin (posts_fin _ _ _ _ _ _) hp7
  cases en'
  obtain ⟨j', ej', hp8⟩ := ixR_fin (posts_fin _ _ _ _ _ _) hp8
  obtain ⟨q, eq, hp9⟩ := of_fin (bind_fin (posts_fin g cl.scr true σ W D) _) hp8
  have e3 : v3 = .int c := rr3
  subst e3
  obtain ⟨ti, h1, h2⟩ := aug_op (X := X) eq
  refine fun pins s σ' v u I rx ry => h1 pins s σ' w3.H _ _ v u _ I rx ry (h2 _ _ ?_)
  have el3 : w3.ι[n]? = some l := pre_get g3.io el
  obtain ⟨_, us, hl3, hr3⟩ := m3.obj ey el3
  refine ⟨l, us, z, j', rfl, rfl, hl3, by rw [hr3.length]; exact ej', ?_⟩
  obtain ⟨g4, m4⟩ := put_ι (ds := ys.set j' (.int q)) m3 ey el3 (hr3.set j' rfl)
  exact hp9 _ σ g4 m4 (hρ3.grow g4)
theorem if_pos_lt {β : Type} {Ek : XK} {Fin : Wd → Out β → Prop} (hF : FinOk g Ek Fin) {w : Wd} {c : Prop} [Decidable c] {x : Out β} (h : Fin w (if c then x else .bad)) : c ∧ Fin w x := by
  split at h
  · exact ⟨by assumption, h⟩
  · exact (hF.bad _ h).elim
/-- o.append(e) -/
theorem ss_app {o a : Expr} {eo ea : E} {apos cpos pos : Pos} (hsw : ∀ env : PySem.Env, swapsWith (.Call (.Attribute o "append" apos) [a] [] cpos) none pos.line env = pure false) (hbase : ∀ env : PySem.Env, attributeBase o "append" env (eval o env) = eval o env) (hline : (apos.endLine == cpos.line) = true)
    (pa : Pl a) (iho : SE g k cl fr o eo) (iha : SE g k cl fr a ea) : SS true g k cl fr (.Expr (.Call (.Attribute o "append" apos) [a] [] cpos) pos) (.app eo ea) := by
  intro X hf hpo W tk ρ μ w σ D hm hρ hp
  simp only [evS] at hp
  have hpe : PE X (.Call (.Attribute o "append" apos) [a] [] cpos) (tBM X.K "list" rAppend (wE X o) (tCons (wE X a) tNil)) :=
    pe_bm PySem.F.plainAttrs_list F.slot_list_append PySem.F.type_list_append mt_append pe_w (pa_cons pe_w pa_nil (pa [] _)) (hbase _) (by rw [pa [] X.env]; rfl) hline (pa [] _) rfl
  refine wS_of (ps_expr hpe (hsw _)) ?_
  refine iho.bind hf (atk tk) hm hρ (posts_fin _ _ _ _ _ _) hp fun r1 μ1 w1 v1 _ g1 m1 rr1 f1 hρ1 hp1 => ?_
  obtain ⟨n, xs0, rfl, en0, hp1⟩ := objR_fin (posts_fin _ _ _ _ _ _) hp1
  obtain ⟨l, vs0, rfl, el, hl0, hr0⟩ := obj_rep m1 rr1.per en0
  refine ⟨.inl ⟨rfl, _, SqL.of hl0⟩, ?_⟩
  refine iha.bind hf (atk tk) m1 hρ1 (posts_fin _ _ _ _ _ _) hp1 fun r2 μ2 w2 v2 _ g2 m2 rr2 f2 hρ2 hp2 => ?_
  obtain ⟨d, μ3, w3, e3, g3, m3, h3, hp3⟩ := frzO_fin (posts_fin _ _ _ _ _ _) m2 rr2 hp2
  rw [← e3]
  unfold appR at hp3
  obtain ⟨n', xs, en', ex, hp4⟩ := objR_fin (posts_fin _ _ _ _ _ _) hp3
  cases en'
  obtain ⟨hb, hp5⟩ := if_pos_lt (posts_fin _ _ _ _ _ _) hp4
  have el3 : w3.ι[n]? = some l := pre_get g3.io (pre_get g2.io el)
  obtain ⟨_, vs, hl, hr⟩ := m3.obj ex el3
  refine ⟨l, vs, v2, rfl, rfl, hl, by rw [hr.length]; exact size_lt hb, ?_⟩
  obtain ⟨g4, m4⟩ := put_ι m3 ex el3 (hr.append (Reps.one h3))
  exact hp5 _ σ g4 m4 ((hρ2.grow g3).grow g4)
/-- o.extend(e) -/
theorem ss_ext {o a : Expr} {eo ea : E} {apos cpos pos : Pos} (hsw : ∀ env : PySem.Env, swapsWith (.Call (.Attribute o "extend" apos) [a] [] cpos) none pos.line env = pure false) (hbase : ∀ env : PySem.Env, attributeBase o "extend" env (eval o env) = eval o env) (hline : (apos.endLine == cpos.line) = true)
    (pa : Pl a) (iho : SE g k cl fr o eo) (iha : SE g k cl fr a ea) : SS true g k cl fr (.Expr (.Call (.Attribute o "extend" apos) [a] [] cpos) pos) (.ext eo ea) := by
  intro X hf hpo W tk ρ μ w σ D hm hρ hp
  simp only [evS] at hp
  have hpe : PE X (.Call (.Attribute o "extend" apos) [a] [] cpos) (tBM X.K "list" rExtend (wE X o) (tCons (wE X a) tNil)) :=
    pe_bm PySem.F.plainAttrs_list F.slot_list_extend PySem.F.type_list_extend mt_extend pe_w (pa_cons pe_w pa_nil (pa [] _)) (hbase _) (by rw [pa [] X.env]; rfl) hline (pa [] _) rfl
  refine wS_of (ps_expr hpe (hsw _)) ?_
  refine iho.bind hf (atk tk) hm hρ (posts_fin _ _ _ _ _ _) hp fun r1 μ1 w1 v1 _ g1 m1 rr1 f1 hρ1 hp1 => ?_
  obtain ⟨n, xs0, rfl, en0, hp1⟩ := objR_fin (posts_fin _ _ _ _ _ _) hp1
  obtain ⟨l, vs0, rfl, el, hl0, hr0⟩ := obj_rep m1 rr1.per en0
  refine ⟨.inl ⟨rfl, _, SqL.of hl0⟩, ?_⟩
  refine iha.bind hf (atk tk) m1 hρ1 (posts_fin _ _ _ _ _ _) hp1 fun r2 μ2 w2 v2 _ g2 m2 rr2 f2 hρ2 hp2 => ?_
  unfold extR at hp2
  obtain ⟨d, ed, hp3⟩ := onP_fin (posts_fin _ _ _ _ _ _) hp2
  unfold seqR at hp3
  split at hp3
  case h_2 => exact hp3.elim
  rename_i ys
  obtain ⟨n', xs, en', ex, hp4⟩ := objR_fin (posts_fin _ _ _ _ _ _) hp3
  cases en'
  obtain ⟨hb, hp5⟩ := if_pos_lt (posts_fin _ _ _ _ _ _) hp4
  have el3 : w2.ι[n]? = some l := pre_get g2.io el
  obtain ⟨_, vs, hl, hr⟩ := m2.obj ex el3
  obtain ⟨b, us, rfl, hb', hr'⟩ := trep_lst (asP_rep m2 rr2.per ed)
  refine ⟨l, b, vs, us, rfl, rfl, hl, hb', by rw [hr.length, hr'.length]; exact size_le hb, ?_⟩
  obtain ⟨g4, m4⟩ := put_ι m2 ex el3 (hr.append hr')
  exact hp5 _ σ g4 m4 (hρ2.grow g4)
/-- an expression whose value is dropped -/
theorem ss_xpr {a : Expr} {e : E} {pos : Pos} (hsw : ∀ env : PySem.Env, swapsWith a none pos.line env = pure false) (ih : SE g k cl fr a e) : SS true g k cl fr (.Expr a pos) (.xpr e) := by
  intro X hf hpo W tk ρ μ w σ D hm hρ hp
  simp only [evS] at hp
  refine wS_of (ps_expr pe_w (hsw _)) ?_
  exact ih.bind hf (atk tk) hm hρ (posts_fin _ _ _ _ _ _) hp fun r1 μ1 w1 v1 _ g1 m1 rr1 f1 hρ1 hp1 => hp1 w1 σ (Grow.refl _) m1 hρ1
theorem ss_ret {a : Expr} {e : E} {pos : Pos} (ih : SE g k cl fr a e) : SS true g k cl fr (.Return (some a) pos) (.ret e) := by
  intro X hf hpo W tk ρ μ w σ D hm hρ hp
  simp only [evS] at hp
  refine wS_of (ps_ret pe_w) ?_
  refine ih X hf W (atk tk) false ρ μ w σ _ hm hρ ?_
  cases q : evE cl e false ρ μ with
  | bad => rw [q] at hp; exact hp
  | exc n m => rw [q] at hp; exact fun w' C gr m' e' => hp w' C σ gr m' e' fun _ => rfl
  | ok r m => rw [q] at hp; exact hp
theorem ss_ife {fl : Bool} {c : Expr} {a b : List Stmt} {ec : E} {ea eb : List S} {pos : Pos} (ihc : SE g k cl fr c ec) (iha : SSs fl g k cl fr a ea) (ihb : SSs fl g k cl fr b eb) : SS fl g k cl fr (.If c a b pos) (.ife ec ea eb) := by
  intro X hf hpo W tk ρ μ w σ D hm hρ hp
  simp only [evS] at hp
  refine wS_of (ps_if pt_w pss_w pss_w) ?_
  refine ihc.bindT hf (atk tk) hm hρ (posts_fin _ _ _ _ _ _) hp fun r1 μ1 w1 b1 _ g1 m1 rr1 hρ1 hp1 => ?_
  obtain ⟨i, rfl, hp2⟩ := blR_fin (posts_fin _ _ _ _ _ _) hp1
  have e := rrep_bl rr1 rfl
  subst e
  cases i with
  | true =>
    rw [if_pos rfl] at hp2 ⊢
    exact iha X hf hpo W tk ρ μ1 w1 σ D m1 hρ1 hp2
  | false =>
    rw [if_neg Bool.false_ne_true] at hp2 ⊢
    exact ihb X hf hpo W tk ρ μ1 w1 σ D m1 hρ1 hp2
/-- raise X('m') -/
theorem ss_rai {x m : Str} {j : Nat} {p p2 cp pos : Pos} (hF : Facts g k cl nm) (hx : x ∈ nm.exs) (hg : fr.sc.names.lookup x = some .globalImplicit) (hdb : (x == ("__debug__" : Str)) = false) : SS true g k cl fr (.Raise (some (.Call (.Name x p) [.Constant (.str m) j p2] [] cp)) none pos) (.rai x) := by
  intro X hf hpo W tk ρ μ w σ D hm hρ hp
  simp only [evS] at hp
  obtain ⟨C, h1, h2, h3, h4, h5⟩ := hF.exs x hx
  have hsc : X.env.scope = fr.sc := hf.sc
  refine wS_of (ps_raise hf.x.calm tk (pmk_own PySem.F.excBase_ValueError (by rw [hf.x.K]; exact h3) (by rw [hf.x.mg]; exact h1) (by rw [hf.x.K]; exact h2) (raises_own (by rw [hf.x.K]; exact h4) (by rw [hf.x.K]; exact h5)) (by show X.env.scope.names.lookup x = _; rw [hsc]; exact hg) hdb)) ?_
  exact hp w C σ (Grow.refl _) hm h1 fun _ => rfl
end
end R

set_option Elab.async false
set_option linter.all false
set_option maxRecDepth 100000
set_option maxHeartbeats 1000000
/-! # R11: loops, try -/
namespace R
open PySem L2 PyProof.Rows PySem.W
section
variable {g : Gx} {k : Nat} {cl : Cl} {fr : FrI} {nm : Nm}
theorem bind_finS {σ : L2.St} {α : Type} {scr : List Int} {fl : Bool} {W : WX} {D : Ends} (F : α → Mu → Out Fl) : FinOk g (WE W σ) (fun w (r : Out α) => PostS g scr fl σ w W D (r.bind F)) := bind_fin (posts_fin g scr fl σ W D) F
/-- another end for what goes on; what is let out may be let out at any slots -/
theorem PostS.to {scr : List Int} {σ σ1 : L2.St} {w : Wd} {W : WX} {D D' : Ends} {r : Out Fl} (h : PostS g scr false σ w W D r) (hr : D'.rt = D.rt) (hn : ∀ ρ μ, r = .ok (.nx ρ) μ → ∀ w' σ', Grow w w' → OkM g μ w' → EnvOk g scr w' ρ σ' → D'.nx σ' w'.H) : PostS g scr false σ1 w W D' r := by
  cases r with
  | bad => exact h
  | ok f μ =>
    cases f with
    | nx ρ => exact hn ρ μ rfl
    | rt r => exact fun w' v gr m rr f => by rw [hr]; exact h w' v gr m rr f
  | exc n μ => exact fun w' C σ' gr m e _ => h w' C σ' gr m e fun z => nomatch z
/-- a statement's end, then what follows -/
theorem PostS.bind {scr : List Int} {σ : L2.St} {w : Wd} {W : WX} {D : Ends} {x : Out Fl} {F : Env → Mu → Out Fl} (h : PostS g scr false σ w W D (x.bind fun f μ => thenF f μ fun ρ => F ρ μ)) : PostS g scr false σ w W { D with nx := fun σ' H' => ∃ ρ μ w', x = .ok (.nx ρ) μ ∧ w'.H = H' ∧ Grow w w' ∧ OkM g μ w' ∧ EnvOk g scr w' ρ σ' ∧ PostS g scr false σ' w' W D (F ρ μ) } x := by
  cases x with
  | bad => exact h
  | exc n μ => exact h
  | ok f μ =>
    cases f with
    | rt r => exact h
    | nx ρ =>
      simp only [Out.bind_ok, thenF] at h
      intro w' σ' gr m e
      refine ⟨ρ, μ, w', rfl, rfl, gr, m, e, ?_⟩
      exact (h.grow gr).to rfl fun ρ2 μ2 e2 w2 σ2 g2 m2 h2 => by
        have h' := h.grow gr
        rw [e2] at h'
        exact h' w2 σ2 g2 m2 h2
/-- what holds between two turns -/
def ForI (g : Gx) (scr : List Int) (body : P → Env → Mu → Out Fl) (ds : List P) (w1 : Wd) (W : WX) (D : Ends) (i m : Nat) (σ : L2.St) (H : Hp) : Prop :=
  i + m = ds.length ∧ ∃ (w' : Wd) (μa : Mu) (ρa : Env), w'.H = H ∧ OkM g μa w' ∧ Grow w1 w' ∧ EnvOk g scr w' ρa σ ∧ PostS g scr false σ w' W D (forL body (ds.drop i) ρa μa)
theorem ss_fr {tup : Bool} {tgs : List Nat} {rng : Bool} {its : List E} {tg iter : Expr} {body : List Stmt} {bs : List S} {pos : Pos} {G : TG} (htg : ∀ X', FrOk g k fr X' → PG X' tg G) (htr : TgRun g cl.scr tup tgs G) (iit : SIt g k cl fr rng iter its) (ib : SSs false g k cl fr body bs)
    (hs : ∀ env x, foldedSetIterable iter env x = pure x) : SS false g k cl fr (.For tg iter body [] pos) (.fr tup tgs rng its bs) := by
  intro X hf hpo W tk ρ μ w σ D hm hρ hp
  simp only [evS] at hp
  refine wS_of (ps_for hpo hf.x.calm pi_w (htg X hf) pss_w (hs _)) ?_
  refine iit X hf W (atk tk) ρ μ w σ hm hρ (posts_fin _ _ _ _ _ _) hp tg fun ds μ1 w1 J g1 m1 hρ1 hJ hp1 => ?_
  generalize hbody : (fun d ρ μ => tgR tup tgs d ρ fun ρ1 => evSs cl bs ρ1 μ) = bd at hp1
  refine ⟨ForI g cl.scr bd ds w1 W D, ⟨ds.length, by omega, w1, μ1, ρ, rfl, m1, Grow.refl _, hρ1, hp1⟩, ?_⟩
  rintro i m σa H ⟨him, w', μa, ρa, rfl, m', g', hρ', hp2⟩
  by_cases hi : i < ds.length
  · right
    obtain ⟨d, hd⟩ : ∃ d, ds[i]? = some d := ⟨_, List.getElem?_eq_getElem hi⟩
    obtain ⟨hgo, hyl⟩ := hJ.step _ _ g' m' i d hd
    refine ⟨hgo, ForI g cl.scr bd ds w1 W D (i + 1) (m - 1), fun σ' H' h => ⟨m - 1, by omega, h⟩, fun x H'' hy => ?_⟩
    obtain ⟨rfl, hx⟩ := hyl x H'' hy
    have edrop : ds.drop i = d :: ds.drop (i + 1) := by
      rw [List.drop_eq_getElem_cons hi]
      rw [List.getElem?_eq_getElem hi] at hd
      cases hd
      rfl
    rw [edrop] at hp2
    simp only [forL] at hp2
    have hp3 := hp2.bind
    rw [← hbody] at hp3
    simp only [tgR] at hp3
    cases hst : setTg tup tgs d ρa with
    | none => rw [hst] at hp3; exact hp3.elim
    | some ρ1 =>
      rw [hst] at hp3
      simp only at hp3
      refine htr.run d x ρa ρ1 σa w' μa m' hst hx hρ' _ fun σ2 h2 _ => ?_
      refine ib X hf hpo W tk ρ1 μa w' σ2 _ m' h2 (hp3.to rfl fun ρ3 μ3 e3 w3 σ3 g3 m3 h3 => ?_)
      rw [e3] at hp3
      obtain ⟨ρ4, μ4, w4, e4, e5, g4, m4, h4, p4⟩ := hp3 w3 σ3 g3 m3 h3
      exact ⟨by omega, w4, μ4, ρ4, e5, m4, g'.trans g4, h4, by rw [← hbody]; exact p4⟩
  · left
    have e0 : ds.drop i = [] := List.drop_eq_nil_of_le (by omega)
    rw [e0] at hp2
    simp only [forL] at hp2
    exact ⟨hJ.stop _ _ g' m' i (by omega), hp2 w' σa (Grow.refl _) m' hρ'⟩
def WhlI (g : Gx) (scr : List Int) (test : Env → Mu → Out Rv) (body : Env → Mu → Out Fl) (W : WX) (D : Ends) (m : Nat) (σ : L2.St) (H : Hp) : Prop :=
  ∃ (w' : Wd) (μa : Mu) (ρa : Env), w'.H = H ∧ OkM g μa w' ∧ EnvOk g scr w' ρa σ ∧ PostS g scr false σ w' W D (whlL test body m ρa μa)
theorem ss_whl {c : Expr} {ec : E} {body : List Stmt} {bs : List S} {pos : Pos} (ic : SE g k cl fr c ec) (ib : SSs false g k cl fr body bs) : SS false g k cl fr (.While c body [] pos) (.whl ec bs) := by
  intro X hf hpo W tk ρ μ w σ D hm hρ hp
  simp only [evS] at hp
  refine wS_of (ps_while hpo pt_w pss_w) ?_
  generalize fuel = fu at hp
  refine ⟨WhlI g cl.scr (fun ρ μ => evE cl ec true ρ μ) (fun ρ μ => evSs cl bs ρ μ) W D, ⟨fu, w, μ, ρ, rfl, hm, hρ, hp⟩, ?_⟩
  rintro m σa H ⟨w', μa, ρa, rfl, m', hρ', hp2⟩
  cases m with
  | zero => exact (show False from hp2).elim
  | succ m =>
    simp only [whlL] at hp2
    refine ic.bindT hf (atk tk) m' hρ' (posts_fin _ _ _ _ _ _) hp2 fun r1 μ1 w1 b1 _ g1 m1 rr1 hρ1 hp3 => ?_
    obtain ⟨i, rfl, hp4⟩ := blR_fin (posts_fin _ _ _ _ _ _) hp3
    have e := rrep_bl rr1 rfl
    subst e
    cases i with
    | false =>
      rw [if_neg Bool.false_ne_true] at hp4 ⊢
      exact hp4 w1 σa (Grow.refl _) m1 hρ1
    | true =>
      rw [if_pos rfl] at hp4 ⊢
      refine ⟨WhlI g cl.scr (fun ρ μ => evE cl ec true ρ μ) (fun ρ μ => evSs cl bs ρ μ) W D m, fun σ' H' h => ⟨m, by omega, h⟩, ?_⟩
      have hp5 := hp4.bind
      refine ib X hf hpo W tk ρa μ1 w1 σa _ m1 hρ1 (hp5.to rfl fun ρ3 μ3 e3 w3 σ3 g3 m3 h3 => ?_)
      have hp6 := hp5
      simp only [e3] at hp6
      obtain ⟨ρ4, μ4, w4, e4, e5, g4, m4, h4, p4⟩ := hp6 w3 σ3 g3 m3 h3
      exact ⟨w4, μ4, ρ4, e5, m4, h4, p4⟩
end
end R

set_option Elab.async false
set_option linter.all false
set_option maxRecDepth 100000
set_option maxHeartbeats 1000000
/-! # R12: try .. except X as e: held = e, the error being kept; try .. except X: x = c -/
namespace R
open PySem L2 PyProof.Rows PySem.W
/-- a caught error, kept -/
def kept (cls : Value) (d : Option Addr) (a : Addr) : HO := .ext fun h => ∃ (oe : Obj) (vs : Array Value), h.get? a = some oe ∧ Zc cls d oe ∧ oe.data = .fields vs
/-- an object that nobody tracks is tracked from now on -/
theorem track_ok {X : Cx} {pins : List (Addr × Obj)} {σ : L2.St} {H : Hp} {s : Shared} {a : Addr} {oe : Obj} {vs : Array Value} {cls : Value} {d : Option Addr} (I : Inv X ((a, oe) :: pins) σ H s) (hz : Zc cls d oe) (hd : oe.data = .fields vs) (h0 : a ∉ X.ex → X.s_0.heap.get? a = none) (hp : ∀ p ∈ X.pn ++ pins, p.1 ≠ a) :
    Inv X pins σ (upd H a (kept cls d a)) s := by
  obtain ⟨e, na, nL, nF, nc⟩ := I.pin (a, oe) (List.mem_append_right _ List.mem_cons_self)
  have nb : ∀ {b : Addr} {o : HO}, H b = some o → b ≠ a := fun h q => by rw [q, na] at h; cases h
  have n0 : ∀ {b : Addr} {o : Obj}, X.s_0.heap.get? b = some o → b ∉ X.ex → b ≠ a := fun h h2 q => by
    subst q
    rw [h0 h2] at h
    cases h
  have ncell : ∀ {x : Str} {c : Addr}, X.env.cells.lookup x = some c → c ≠ a := fun {x c} h q => by
    obtain ⟨v, hv⟩ := I.cell x c h
    subst q
    obtain ⟨o, e1, e2⟩ := hv
    rw [e] at e1
    cases e1
    rw [hd] at e2
    cases e2
  refine ⟨I.ok, I.os, I.bare, ⟨I.base.keep, I.base.slot, fun b o h h1 h2 => ?_, I.base.there, fun b xs h => ?_, fun b o u h => ?_, fun b ps h => ?_⟩, I.loc, I.cell, ?_, fun x c h => ?_, fun p h => ?_, fun b ob h => ?_, I.len⟩
  · rw [upd_ne (n0 h h2)]
    exact I.base.free b o h h1 h2
  · have := I.base.tups b xs h
    rw [upd_ne (nb this)]
    exact this
  · have := I.base.frzs b o u h
    rw [upd_ne (nb this)]
    exact this
  · obtain ⟨more, z⟩ := I.base.tbls b ps h
    exact ⟨more, by rw [upd_ne (nb z)]; exact z⟩
  · rw [upd_ne (Ne.symm nL)]
    exact I.free
  · rw [upd_ne (ncell h)]
    exact I.freeC x c h
  · obtain ⟨z1, z2, z3⟩ := I.pin p ((List.mem_append.mp h).elim (fun q => List.mem_append_left _ q) fun q => List.mem_append_right _ (List.mem_cons_of_mem _ q))
    exact ⟨z1, by rw [upd_ne (hp p h)]; exact z2, z3⟩
  · by_cases hb : b = a
    · subst hb
      rw [upd_same] at h
      cases h
      exact ⟨⟨oe, vs, e, hz, hd⟩, ⟨oe, e⟩, fun h1 h2 ⟨o', v', q1, q2⟩ k => ⟨o', v', k _ q1, q2⟩⟩
    · rw [upd_ne hb] at h
      refine (I.hok b ob h).stay (fun _ _ _ q => q) (fun c q => ?_) fun c xs q => ?_
      · rw [upd_ne (nb q)]; exact q
      · rw [upd_ne (nb q)]; exact q
section
variable {X : Cx} {x n : Str} {c : Value} {i : Nat} {body suite : List Stmt} {b₀ : Stmt} {np pos pos' : Pos} {tb : WX → TS} {ts : Addr → TS}
/-- what the clause wishes of an exception of the body: it is one of the clause's, and it is kept -/
def wHold (K : PySem.W.Frag) (c : Value) (i : Nat) (ts : Addr → TS) (D : Ends) : WX := fun cls d σ H =>
  PySem.W.exmOne K cls c = some true ∧ ∀ a, H a = none → ts a { nx := fun σ' H' => H' a = none → D.nx (σ'.set i none) (upd H' a (kept cls d a)), rt := fun _ _ => False } (σ.set i (some (.ref a))) H
theorem ps_try_hold (hs : X.stack = X.env :: X.outer) (hf : X.env.frame = some X.env.locals) (hN : X.N.Nodup) (hi : X.N[i]? = some n) (hln : X.env.kindOf n = some .local) (hc : Names X x c)
    (hb : ∀ (W : WX) (pn : List (Addr × Obj)) (xe : Value → Shared → Prop), Takes (X.tr pn xe) W → PassesOwn (model X.prog X.w) X.A X.env xe → PSs (X.tr pn xe) body (tb W))
    (hsu : ∀ (a : Addr) (oe : Obj) (pn : List (Addr × Obj)), PSs (X.suite a ((a, oe) :: pn)) (b₀ :: suite) (ts a)) :
    PS X (.Try body [.ExceptHandler (some (.Name x np)) (some n) (b₀ :: suite) pos'] [] [] pos) (fun D σ H => tb (wHold X.K c i ts D) D σ H) := by
  refine ⟨fun pins s σ H D I h => ?_⟩
  have ok := I.ok
  have hfr : X.A.frames = some (X.env :: X.outer) := by rw [ok.frames, hs]
  refine wpAny_Try_except ?_
  refine wpAny_mono ((hb (wHold X.K c i ts D) (X.pn ++ pins) (fun e s₁ => wpAny (model X.prog X.w) X.A (noteFrame e X.env) (fun _ s₂ => wpAny (model X.prog X.w) X.A (setFlight e none) (fun _ s₃ =>
    wpAny (model X.prog X.w) X.A (handleBy e X.env [.ExceptHandler (some (.Name x np)) (some n) (b₀ :: suite) pos']) (SP X pins D) X.xe s₃) X.xe s₂) X.xe s₁) (fun u s' xx => ?_) PassesOwn.looking).run [] s σ H D (I.toTry _) h) (fun f s1 hsp => ?_) (fun e s1 he => he)
  · obtain ⟨a, B, sI, pins', σ', H', cls, d, rfl, J', nb, up, sky, na, os, ag, hb1, hyes⟩ := xx
    have J : Inv X pins σ' H' sI := J'.ofTry ok
    have sky' : Sky B (X.env :: X.outer) a (Zc cls d) X.env.locals s'.heap := by rw [← hs]; exact sky
    show wpAny (model X.prog X.w) X.A (noteFrame (.ref a) X.env) _ _ _
    refine Sky.land Zc.steady hfr hf sky' fun h3 fl3 up3 => ?_
    have J3 : Inv X pins σ' H' { s' with heap := h3 } := J.landed nb fl3.1 (up.trans up3) os ag
    obtain ⟨oe3, vs3, he3, hz3, hd3⟩ := fl3.there
    have nfr : a ∉ frs (X.env :: X.outer) := fun hm => by
      obtain ⟨_, o', e', hnf⟩ := fl3.2.2.1.mem hm
      rw [he3] at e'
      cases e'
      exact hnf _ hd3
    have nL : a ≠ X.env.locals := fun z => nfr (List.mem_filterMap.mpr ⟨X.env, List.mem_cons_self, by rw [hf, z]⟩)
    have nF : a ∉ X.fs := fun hm => by
      obtain ⟨e, he, q⟩ := List.mem_filterMap.mp hm
      exact nfr (List.mem_filterMap.mpr ⟨e, List.mem_cons_of_mem _ he, q⟩)
    have hfs : frs X.stack = X.env.locals :: X.fs := by
      rw [hs]
      simp only [frs, List.filterMap_cons, hf]
    -- the error is not of the state ahead of the try
    have notIn : ∀ {b : Addr} {o : Obj}, sI.heap.get? b = some o → b ≠ X.env.locals → b ∉ X.fs → b ≠ a := fun {b o} e h1 h2 q => by
      have z := nb b o e (by rw [hfs]; exact fun m => (List.mem_cons.mp m).elim h1 h2)
      rw [q, fl3.2.1] at z
      cases z
    have h0 : a ∉ X.ex → X.s_0.heap.get? a = none := fun hex => by
      cases q : X.s_0.heap.get? a with
      | none => rfl
      | some o =>
        obtain ⟨o', e'⟩ := J.base.there a o q hex
        exact (notIn e' nL nF rfl).elim
    have hpn : ∀ p ∈ X.pn ++ pins, p.1 ≠ a := fun p hp => by
      obtain ⟨e, _, z3, z4, _⟩ := J.pin p hp
      exact notIn e z3 z4
    have S3 := J3.suite he3 hd3 na nL nF
    refine wpAny_handleBy_cons (codeAny_handlers_test ?_) (by intro q; cases q)
    have LT : PySem.W.Looks (model X.prog X.w) h3 (typeOf (.ref a)) cls := fun A Q E s k q => wpAny_typeOf_ref (k _ _ he3) (by rw [hz3.1]; exact q)
    have LM := PySem.W.exm_one (M := model X.prog X.w) (J3.kIn) LT hb1
    have test : ∀ {Q : Value → Shared → Prop} {E : Value → Shared → Prop}, Q c { s' with heap := h3 } → wpAny (model X.prog X.w) (X.A.mark (some (.ref a))) (eval (.Name x np) X.env) Q E { s' with heap := h3 } := fun {Q E} q => by
      obtain ⟨hg, hdbg, hm | ⟨hm, hv, hnn⟩⟩ := hc
      · exact ld_glob (X := X.suite a ((a, oe3) :: (X.pn ++ pins))) S3 hg hm q hdbg
      · exact ld_blt (X := X.suite a ((a, oe3) :: (X.pn ++ pins))) S3 hg hm hv q hnn hdbg
    refine test (LM.here (codeAny_handlers_suite_as (HandSPX.lands_againZ fl3 fun h4 fl4 up4 => ?_)))
    have J4 : Inv X pins σ' H' { s' with heap := h4 } := J.landed nb fl4.1 ((up.trans up3).trans up4) os ag
    obtain ⟨oe4, vs4, he4, hz4, hd4⟩ := fl4.there
    refine store_ok (X := X.suite a ((a, oe4) :: (X.pn ++ pins))) (v := .ref a) (J4.suite he4 hd4 na nL nF) hN hi (.inl hln) rfl (fun s5 S5 => ?_) (.inr hln)
    refine wpAny_mono ((hsu a oe4 (X.pn ++ pins)).run [] s5 _ H' _ S5 (hyes a na)) (fun f s6 hsp => ?_) (fun _ _ z => False.elim z)
    cases f with
    | next =>
      obtain ⟨σ6, H6, S6, q6⟩ := hsp
      have P6 := S6.pin (a, oe4) (List.mem_append_left _ List.mem_cons_self)
      have J6 : Inv X ((a, oe4) :: pins) σ6 H6 s6 := (S6.unsuite ok).pins_of fun p hp => (List.mem_cons.mp hp).elim (fun e => by rw [e]; exact P6) fun e => (S6.unsuite ok).pin p (List.mem_append_right _ e)
      exact gone_ok J6 hN hi hln fun s7 J7 => ⟨_, _, track_ok J7 hz4 hd4 h0 hpn, q6 P6.2.1⟩
    | brk =>
      obtain ⟨_, _, _, q6⟩ := hsp
      exact q6.elim
    | cont =>
      obtain ⟨_, _, _, q6⟩ := hsp
      exact q6.elim
    | ret u =>
      obtain ⟨_, _, _, _, _, q6⟩ := hsp
      exact q6.elim
  · cases f with
    | next =>
      obtain ⟨σ', H', J', q⟩ := hsp
      exact wpAny_execs_nil ⟨σ', H', J'.ofTry ok, q⟩
    | brk =>
      obtain ⟨σ', H', J', q⟩ := hsp
      exact ⟨σ', H', J'.ofTry ok, q⟩
    | cont =>
      obtain ⟨σ', H', J', q⟩ := hsp
      exact ⟨σ', H', J'.ofTry ok, q⟩
    | ret u =>
      obtain ⟨v, σ', H', J', r, q⟩ := hsp
      exact ⟨v, σ', H', J'.ofTry ok, r, q⟩
end
section
variable {g : Gx} {k : Nat} {cl : Cl} {fr : FrI} {nm : Nm}
theorem fr_tr {X : Cx} (hf : FrOk g k fr X) (pn : List (Addr × Obj)) (xe : Value → Shared → Prop) : FrOk g k fr (X.tr pn xe) :=
  ⟨⟨hf.x.prog, hf.x.wd, hf.x.K, hf.x.mg, hf.x.base, hf.x.calm, hf.x.un⟩, hf.hN, hf.nd, hf.sc, hf.fn, hf.room, hf.stk⟩
theorem held_env {scr : List Int} {w : Wd} {ρ : Env} {σ : L2.St} (h : EnvOk g scr w ρ σ) {i x : Nat} {r : Rv} {v : V} (n : notN r) (hr : RPer g scr w r v) : EnvOk g scr w ((ρ.set x (some r)).set i none) (((σ.set i (some v)).set x (some v)).set i none) := ⟨by simp [h.len], fun j r' e => by
  by_cases hi : i = j
  · subst hi
    by_cases hl : i < ρ.length
    · rw [List.getElem?_set_self (by simpa using hl)] at e
      cases e
    · rw [List.getElem?_eq_none (by simpa using hl)] at e
      cases e
  · rw [List.getElem?_set_ne hi] at e
    by_cases hx : x = j
    · subst hx
      by_cases hl : x < ρ.length
      · rw [List.getElem?_set_self hl] at e
        cases e
        exact ⟨n, v, by rw [List.getElem?_set_ne hi, List.getElem?_set_self (by rw [List.length_set, ← h.len]; exact hl)], hr⟩
      · rw [List.getElem?_eq_none (by simpa using hl)] at e
        cases e
    · rw [List.getElem?_set_ne hx] at e
      obtain ⟨n', v', e', h'⟩ := h.get j r' e
      exact ⟨n', v', by rw [List.getElem?_set_ne hi, List.getElem?_set_ne hx, List.getElem?_set_ne hi]; exact e', h'⟩⟩
theorem names_of {X : Cx} (hf : FrOk g k fr X) (hF : Facts g k cl nm) {c : Str} (hc : c ∈ nm.exs) (hg : fr.sc.names.lookup c = some .globalImplicit) (hdb : (c == ("__debug__" : Str)) = false) : ∃ C, g.mg c = some (.ref C) ∧ Names X c (.ref C) := by
  obtain ⟨C, h1, _⟩ := hF.exs c hc
  have hsc : X.env.scope = fr.sc := hf.sc
  exact ⟨C, h1, by show X.env.scope.names.lookup c = _; rw [hsc]; exact hg, hdb, .inl (by rw [hf.x.mg]; exact h1)⟩
theorem ss_tryA {body : List Stmt} {bs : List S} {c n xn : Str} {i x : Nat} {np px pe sp pos pos' : Pos} (hF : Facts g k cl nm) (hblk : fr.blk = false) (hc : c ∈ nm.exs) (hg : fr.sc.names.lookup c = some .globalImplicit) (hdb : (c == ("__debug__" : Str)) = false)
    (hi : fr.N[i]? = some n) (hln : fr.sc.names.lookup n = some .local) (hx : fr.N[x]? = some xn) (hlx : fr.sc.names.lookup xn = some .local) (hd1 : (n == ("__debug__" : Str)) = false) (hd2 : (n == ("__classdict__" : Str)) = false) (ib : SSs true g k cl fr body bs) :
    SS true g k cl fr (.Try body [.ExceptHandler (some (.Name c np)) (some n) [.Assign [.Name xn px] (.Name n pe) sp] pos'] [] [] pos) (.tryA bs c i x) := by
  intro X hf hpo W tk ρ μ w σ D hm hρ hp pins s I
  have hsc : X.env.scope = fr.sc := hf.sc
  have hN : X.N.Nodup := by rw [hf.hN]; exact hf.nd
  have hl := I.len
  have hlt : i < σ.length := by rw [hl, hf.hN]; exact (List.getElem?_eq_some_iff.mp hi).1
  obtain ⟨Cc, hmc, hnames⟩ := names_of hf hF hc hg hdb
  have hln' : X.env.scope.names.lookup n = some .local := by rw [hsc]; exact hln
  have hlx' : X.env.scope.names.lookup xn = some .local := by rw [hsc]; exact hlx
  obtain ⟨k1, k2⟩ := hf.stk hblk
  refine (ps_try_hold (tb := fun W D σ H => ∀ pn xe, Takes (X.tr pn xe) W → PassesOwn (model X.prog X.w) X.A X.env xe → wSs (X.tr pn xe) body D σ H) (ts := fun _ => tAsg (tVar i) (gName x)) k1 k2 hN (by rw [hf.hN]; exact hi) hln' hnames
    (fun W pn xe tk po => ⟨fun pins s σ H D I q => q pn xe tk po pins s I⟩)
    (fun a oe pn => pss_one (ps_set (X := X.suite a ((a, oe) :: pn)) hN (by rw [hf.hN]; exact hx) (.inl hlx') (pe_var (by rw [hf.hN]; exact hi) (.inl hln') hd1 hd2) rfl (.inr hlx')))).run pins s σ w.H D I ?_
  intro pn xe tk' po
  refine ib (X.tr pn xe) (fr_tr hf pn xe) po _ tk' ρ μ w σ D hm hρ ?_
  simp only [evS] at hp
  cases q : evSs cl bs ρ μ with
  | bad => rw [q] at hp; exact hp
  | ok f m => rw [q] at hp; cases f <;> exact hp
  | exc m μ1 =>
    rw [q] at hp
    simp only at hp
    cases hs : cl.sub m c with
    | none => rw [hs] at hp; exact hp.elim
    | some b =>
      rw [hs] at hp
      cases b with
      | false => exact hp.elim
      | true =>
        simp only at hp
        intro w' C σ' gr m' e z
        have z' := z rfl
        subst z'
        refine ⟨by rw [hf.x.K]; exact hF.sub m c true hs C Cc e hmc, fun a ha => ⟨.ref a, List.getElem?_set_self hlt, fun _ => ?_⟩⟩
        obtain ⟨g2, m2⟩ := new_Hb m' (o := ExcHO C a) ha
        exact hp _ _ (gr.trans g2) m2 (held_env (hρ.grow (gr.trans g2)) (r := .p (.exc m)) trivial ⟨a, C, rfl, e, upd_same⟩)
theorem ss_tryO {body : List Stmt} {bs : List S} {c xn : Str} {x : Nat} {d : P} {a : Expr} {np px sp pos pos' : Pos} (hF : Facts g k cl nm) (hblk : fr.blk = false) (hc : c ∈ nm.exs) (hg : fr.sc.names.lookup c = some .globalImplicit) (hdb : (c == ("__debug__" : Str)) = false)
    (hx : fr.N[x]? = some xn) (hlx : fr.sc.names.lookup xn = some .local ∨ (fr.sc.names.lookup xn = some .cell ∧ fr.fnl xn = true)) (ha : ∀ X : Cx, ∃ v, PE X a (tC v) ∧ ∀ H, Rep g H d v) (hsw : ∀ env : PySem.Env, swapsWith a (some (.Name xn px)) sp.line env = pure false) (ib : SSs true g k cl fr body bs) :
    SS true g k cl fr (.Try body [.ExceptHandler (some (.Name c np)) none [.Assign [.Name xn px] a sp] pos'] [] [] pos) (.tryO bs c x d) := by
  intro X hf hpo W tk ρ μ w σ D hm hρ hp
  have hsc : X.env.scope = fr.sc := hf.sc
  have hN : X.N.Nodup := by rw [hf.hN]; exact hf.nd
  obtain ⟨Cc, hmc, hnames⟩ := names_of hf hF hc hg hdb
  obtain ⟨l1, l2⟩ := lc_of hf hlx
  obtain ⟨k1, k2⟩ := hf.stk hblk
  obtain ⟨v, _, hv⟩ := ha X
  refine wS_of (ps_try_only (tb := fun W D σ H => ∀ pn xe, Takes (X.tr pn xe) W → PassesOwn (model X.prog X.w) X.A X.env xe → wSs (X.tr pn xe) body D σ H) (ts := fun _ _ _ => fun D σ H => (∀ u, (∀ H, Rep g H d u) → D.nx (σ.set x (some u)) H)) (Wout := W) k1 k2 hnames tk
    (fun W pn xe tk po => ⟨fun pins s σ H D I q => q pn xe tk po pins s I⟩)
    (fun a oe cls dd pn _ _ => ⟨fun pins s σ H D I q => by
      obtain ⟨u, hu, hr⟩ := ha (X.suite a ((a, oe) :: pn))
      exact (pss_one (ps_set (X := X.suite a ((a, oe) :: pn)) hN (by rw [hf.hN]; exact hx) l1 hu (hsw _) l2)).run pins s σ H D I (q u hr)⟩)) ?_
  intro pn xe tk' po
  refine ib (X.tr pn xe) (fr_tr hf pn xe) po _ tk' ρ μ w σ D hm hρ ?_
  simp only [evS] at hp
  cases q : evSs cl bs ρ μ with
  | bad => rw [q] at hp; exact hp
  | ok f m => rw [q] at hp; cases f <;> exact hp
  | exc m μ1 =>
    rw [q] at hp
    simp only at hp
    cases hs : cl.sub m c with
    | none => rw [hs] at hp; exact hp.elim
    | some b =>
      rw [hs] at hp
      intro w' C σ' gr m' e z
      have z' := z rfl
      subst z'
      refine ⟨b, by rw [hf.x.K]; exact hF.sub m c b hs C Cc e hmc, fun eb => ?_, fun eb => ?_⟩
      · subst eb
        exact fun a _ u hu => hp w' _ gr m' ((hρ.grow gr).set (r := .p d) trivial (hu _))
      · subst eb
        exact hp w' C σ' gr m' e fun _ => rfl
end
end R

set_option Elab.async false
set_option linter.all false
set_option maxRecDepth 100000
set_option maxHeartbeats 1000000
/-! # R12b: isinstance of a kept error; list.count, list.index -/
namespace R
open PySem L2 PyProof.Rows PySem.W
section
variable {X : Cx}
/-- isinstance(error, class), the error being kept -/
def rIsK (K : PySem.W.Frag) : List V → Hp → VK → Prop := fun xs H Q => ∃ (C a : Addr) (c : V) (cv : Value) (b : Bool), xs = [.ref a, c] ∧ H a = some (ExcHO C a) ∧ ExcC K C ∧ (∀ u, RelV c u → u = cv) ∧ PySem.W.kitOne K (.ref C) cv = some b ∧ Q (.bl b) H
theorem call_isK : CallR X (.builtin "isinstance") (rIsK X.K) := by
  intro pins s σ H xs us Q I r h
  obtain ⟨C, a, c, cv, b, rfl, hH, E, hcv, hk, q⟩ := h
  cases r with
  | cons r1 r2 =>
    cases r2 with
    | cons r3 r4 =>
      cases r4
      cases r1
      cases hcv _ r3
      obtain ⟨⟨oe, vs, hg, hz, hd⟩, _⟩ := I.hok a _ hH
      have J : PySem.W.InstAt s.heap a oe C none := by
        obtain ⟨oc, od, oda, osl⟩ := oe
        obtain ⟨e1, e2⟩ := hz
        dsimp only at e1 e2 hd
        subst e1 e2 hd
        exact ⟨hg, rfl, rfl, trivial⟩
      refine PySem.W.kia_one (PySem.W.handS_kitx_exc E.hg E.hk E.hs E.hd E.ha E.hn E.ht E.hm) I.kIn J hk (fun z => nomatch z) fun t => ?_
      exact ⟨.bl b, H, I.kept (t' := t) fun _ _ e => e, rfl, q⟩
/-- l.count(x), data -/
def rCntD (K : PySem.W.Frag) : V → List V → Hp → VK → Prop := fun x xs H Q => ∃ (a : Addr) (y : V) (d : PyData) (ds : List PyData), x = V.ref a ∧ xs = [y] ∧ Dp K H (V.ref a) (.list ds) ∧ Dp K H y d ∧ SeqAt.shaped (.list ds) = true ∧ SeqAt.shaped d = true ∧ Q (.int ((ds.countP fun z => PyData.eqv z d : Nat) : Int)) H
theorem mt_countD (hu : X.A.units + 65 < cLine) : MtR X "list.count" (rCntD X.K) := by
  intro pins s σ H x xs v us Q I rx rxs h
  obtain ⟨a, y, d, ds, rfl, rfl, hl, hy, sl, sd, q⟩ := h
  cases rx
  obtain ⟨u, rfl, ru⟩ := rxs.one
  obtain ⟨bs, hread⟩ := Dp.reads I d y u hy ru
  have lay : PyData.canLayAll0 ds = true := SeqAt.canLay_of_shaped sl
  have room : X.A.units + 1 + min (PyData.depthAll ds) d.depth < cLine := room_in_shaped sd hu
  cases hl with
  | lst hs ha =>
    obtain ⟨its, rv, ⟨⟨cls, dd, data, osl⟩, n, ho, hc, hdn, hdt⟩, hlen⟩ := I.list hs
    simp only at hc hdt
    subst hc hdt
    obtain ⟨as, hall⟩ := Dp.readsAll I ds _ its ha rv
    have hmap : its.map (SeqAt.readOf s.heap) = ds := SeqAt.readsAll_map ds its as lay hall
    refine call_meets PySem.F.slot_list_count ⟨_, ho, rfl⟩ PySem.F.entry_list_count (PySem.F.args_list_count_2 _ _)
      (SeqAt.list_countAt a its.toArray n dd osl u (fun w => PyData.eqv (SeqAt.readOf s.heap w) d)) ⟨ho, SeqAt.items_eqAt (vs := its.toArray) hall hread lay (SeqAt.canLay_of_shaped sd) room, ?_⟩
    have ec : its.toArray.toList.countP (fun w => PyData.eqv (SeqAt.readOf s.heap w) d) = ds.countP fun z => PyData.eqv z d := by
      rw [← hmap, List.countP_map]
      rfl
    rw [ec]
    exact ⟨.int _, H, I.tok _, ⟨_, rfl⟩, q⟩
end
theorem find_ix {α : Type} {p : α → Bool} : ∀ {l : List α} {j : Nat}, l.findIdx? p = some j → (∃ z, l[j]? = some z ∧ p z = true) ∧ ∀ m z, m < j → l[m]? = some z → p z = false
  | [], j, h => by simp at h
  | a :: l, j, h => by
    rw [List.findIdx?_cons] at h
    cases ha : p a with
    | true =>
      rw [ha] at h
      cases h
      exact ⟨⟨a, rfl, ha⟩, fun m z hm => absurd hm (Nat.not_lt_zero _)⟩
    | false =>
      rw [ha] at h
      simp only [Bool.false_eq_true, if_false, Option.map_eq_some_iff] at h
      obtain ⟨i, hi, rfl⟩ := h
      obtain ⟨⟨z, h1, h2⟩, h3⟩ := find_ix hi
      refine ⟨⟨z, by simpa using h1, h2⟩, fun m w hm e => ?_⟩
      cases m with
      | zero =>
        cases e
        exact ha
      | succ m => exact h3 m w (by omega) (by simpa using e)
section
variable {g : Gx} {k : Nat} {cl : Cl} {fr : FrI} {nm : Nm}
theorem lm_ok {X : Cx} (hX : XOk g X) {μ : Mu} {w : Wd} {Q : VK} {x y : V} (hm : OkM g μ w) {ix : Bool} {o a : P} {r : Rv} {scr : List Int} (e : lmP ix o a = some r) (ho : TRep g w o x) (ha : TRep g w a y) (hq : OpPost g scr w μ Q r) : wMt X (if ix then "list.index" else "list.count") x [y] w.H Q := by
  have hu : X.A.units + 65 < cLine := by have := hX.un; omega
  unfold lmP at e
  split at e
  case h_2 => cases e
  rename_i xs
  split at e
  case h_2 => cases e
  rename_i d ds hd hds
  split at e
  case isFalse => cases e
  rename_i hs
  rw [Bool.and_eq_true] at hs
  obtain ⟨p, vs, rfl, hp, hr⟩ := trep_lst ho
  have h1 := Rep.dp X.K _ _ _ (TRep.H hm ha) hd
  have h2 := Rep.dp X.K (.lst xs) (.ref p) (.list ds) (TRep.H hm ho) (by simp only [pyOf, hds]; rfl)
  cases ix with
  | false =>
    cases e
    exact wMt_of (mt_countD hu) ⟨p, y, d, ds, rfl, rfl, h2, h1, hs.2, hs.1, post_p hm hq rfl⟩
  | true =>
    rw [if_pos rfl] at e ⊢
    cases hf : ds.findIdx? fun z => PyData.eqv z d with
    | none => rw [hf] at e; cases e
    | some j =>
      rw [hf] at e
      cases e
      obtain ⟨⟨z, z1, z2⟩, z3⟩ := find_ix hf
      exact wMt_of (mt_indexD hu) ⟨p, y, d, ds, j, z, rfl, rfl, h2, h1, hs.2, hs.1, z1, z2, z3, post_p hm hq rfl⟩
theorem seqR_fin {Ek : XK} {β : Type} {Fin : Wd → Out β → Prop} (hF : FinOk g Ek Fin) {w : Wd} {d : P} {f : List P → Out β} (h : Fin w (seqR d f)) : ∃ xs, d = .lst xs ∧ Fin w (f xs) := by
  unfold seqR at h
  split at h
  · exact ⟨_, rfl, h⟩
  · exact (hF.bad _ h).elim
theorem se_lm {o a : Expr} {eo ea : E} {ix : Bool} {name : Str} {apos cpos : Pos} (hn : name = if ix then ("index" : Str) else "count") (hbase : ∀ env : PySem.Env, attributeBase o name env (eval o env) = eval o env) (hline : (apos.endLine == cpos.line) = true)
    (pa : Pl a) (iho : SE g k cl fr o eo) (iha : SE g k cl fr a ea) : SE g k cl fr (.Call (.Attribute o name apos) [a] [] cpos) (.lm ix eo ea) := by
  intro X hf W hW t ρ μ w σ Q hm hρ hp
  cases t with
  | true => exact (show False from hp).elim
  | false =>
    simp only [evE, Bool.false_eq_true, if_false] at hp
    have hpe : PE X (.Call (.Attribute o name apos) [a] [] cpos) (tBM X.K "list" (wMt X (if ix then "list.index" else "list.count")) (wE X o) (tCons (wE X a) tNil)) := by
      cases ix with
      | true =>
        rw [if_pos rfl] at hn ⊢
        subst hn
        exact pe_bm PySem.F.plainAttrs_list PySem.F.slot_list_index PySem.F.type_list_index (mtR_w _) pe_w (pa_cons pe_w pa_nil (pa [] _)) (hbase _) (by rw [pa [] X.env]; rfl) hline (pa [] _) rfl
      | false =>
        rw [if_neg Bool.false_ne_true] at hn ⊢
        subst hn
        exact pe_bm PySem.F.plainAttrs_list PySem.F.slot_list_count PySem.F.type_list_count (mtR_w _) pe_w (pa_cons pe_w pa_nil (pa [] _)) (hbase _) (by rw [pa [] X.env]; rfl) hline (pa [] _) rfl
    refine wE_of hpe ?_
    refine iho.bind hf hW hm hρ (post_fin _ _ _ _) hp fun r1 μ1 w1 v1 _ g1 m1 rr1 f1 hρ1 hp1 => ?_
    obtain ⟨d, hd, hp2⟩ := onP_fin (post_fin _ _ _ _) hp1
    obtain ⟨xs, rfl, hp2⟩ := seqR_fin (post_fin _ _ _ _) hp2
    obtain ⟨p, vs, rfl, hpl, _⟩ := trep_lst (asP_rep m1 rr1.per hd)
    refine ⟨.inl ⟨rfl, _, SqL.of hpl⟩, ?_⟩
    refine iha.bind hf hW m1 hρ1 (post_fin _ _ _ _) hp2 fun r2 μ2 w2 v2 _ g2 m2 rr2 f2 hρ2 hp3 => ?_
    obtain ⟨d', hd', hp4⟩ := onP_fin (post_fin _ _ _ _) hp3
    obtain ⟨e, he, hp5⟩ := onP_fin (post_fin _ _ _ _) hp4
    obtain ⟨r, er, hq⟩ := ofPost hp5
    exact lm_ok hf.x m2 er (asP_rep m2 (rr1.per.grow g2) hd') (asP_rep m2 rr2.per he) hq
theorem isxR_fin {Ek : XK} {β : Type} {Fin : Wd → Out β → Prop} {isx : Str → Str → Option Bool} (hF : FinOk g Ek Fin) {w : Wd} {c : Str} {x : Rv} {μ : Mu} {f : Rv → Mu → Out β} (h : Fin w ((isxR isx c x μ).bind f)) : ∃ n b, x = .p (.exc n) ∧ isx n c = some b ∧ Fin w (f (.p (.bl b)) μ) := by
  unfold isxR at h
  split at h
  · split at h
    · exact ⟨_, _, rfl, by assumption, h⟩
    · exact (hF.bad _ h).elim
  · exact (hF.bad _ h).elim
theorem se_isx {c : Str} {p pc pos : Pos} {a : Expr} {ea : E} (hF : Facts g k cl nm) (hg : fr.sc.names.lookup ("isinstance" : Str) = some .globalImplicit) (hgc : fr.sc.names.lookup c = some .globalImplicit) (hdb : (c == ("__debug__" : Str)) = false) (pa : Pl a) (iha : SE g k cl fr a ea) :
    SE g k cl fr (.Call (.Name "isinstance" p) [a, .Name c pc] [] pos) (.isx c ea) := by
  intro X hf W hW t ρ μ w σ Q hm hρ hp
  simp only [evE] at hp
  have hmg : X.mg ("isinstance" : Str) = none := by rw [hf.x.mg]; exact hF.bn _ (by decide +kernel)
  have hgl : Gl X ("isinstance" : Str) := by show X.env.scope.names.lookup _ = _; rw [hf.sc]; exact hg
  have hglc : Gl X c := by show X.env.scope.names.lookup _ = _; rw [hf.sc]; exact hgc
  -- the class is evaluated in any case: which one it is stands fast ahead of the error
  let tc : TE := wE X (.Name c pc)
  have hpe : PE X (.Call (.Name ("isinstance" : Str) p) [a, .Name c pc] [] pos) (tCB (wCall X (.builtin "isinstance")) (tCons (wE X a) (tCons tc tNil))) :=
    pe_callB (callR_w _) hgl hmg (by decide +kernel) (pa_cons pe_w (pa_cons pe_w pa_nil rfl) (pa _ _)) (by decide) (by decide) (pa _ _) rfl
  refine wEt_B (fun _ _ => rfl) (wE_of hpe ?_)
  refine iha.bind hf hW hm hρ (post_fin _ _ _ _) hp fun r1 μ1 w1 v1 e1 g1 m1 rr1 f1 hρ1 hp1 => ?_
  obtain ⟨n, b, rfl, hx, hp2⟩ := isxR_fin (post_fin _ _ _ _) hp1
  obtain ⟨q, C, rfl, hC, hq⟩ := rr1
  obtain ⟨hE, cv, hk, hcv⟩ := hF.isx n c b hx C hC
  have hfin : (QB t Q) (.bl b) w1.H := post_p m1 (retB_post hp2) rfl
  have hH : w1.H q = some (ExcHO C q) := m1.sub _ _ hq
  rcases hcv with ⟨Cc, rfl, hmc⟩ | ⟨rfl, rfl, hmc⟩
  · refine wE_of (pe_glob (v := .ref Cc) hglc (by rw [hf.x.mg]; exact hmc) rfl hdb) ?_
    exact wCall_of call_isK ⟨C, q, .ref Cc, .ref Cc, b, rfl, hH, by rw [hf.x.K]; exact hE, fun u r => r, by rw [hf.x.K]; exact hk, hfin⟩
  · refine wE_of (pe_bltn (v := .ty "ValueError") (u := .type "ValueError") hglc (by rw [hf.x.mg]; exact hmc) (by decide +kernel) rfl (by decide) hdb) ?_
    exact wCall_of call_isK ⟨C, q, .ty "ValueError", .type "ValueError", b, rfl, hH, by rw [hf.x.K]; exact hE, fun u r => r, by rw [hf.x.K]; exact hk, hfin⟩
end
end R

set_option Elab.async false
set_option linter.all false
set_option maxRecDepth 100000
set_option maxHeartbeats 4000000
/-! # R12c: a small dict asked on the spot -/
namespace R
open PySem L2 PyProof.Rows
section
variable {g : Gx} {k : Nat} {fr : FrI} {cl : Cl}
theorem upd_twice {H : Hp} {p : Addr} {o o' : HO} : upd (upd H p o) p o' = upd H p o' := by
  funext a
  by_cases h : a = p
  · subst h; rw [upd_same, upd_same]
  · rw [upd_ne h, upd_ne h, upd_ne h]
def twoK (i : Int) (a : Str) (i' : Int) (a' : Str) : List (L2.Key × V) := mergeK [] [(Sum.inl i, V.str a), (Sum.inl i', V.str a')]
theorem twoK_get (i : Int) (a : Str) (i' : Int) (a' : Str) (j : Int) : valV (twoK i a i' a') (Sum.inl j) = if i' = j then some (V.str a') else if i = j then some (V.str a) else none := by
  by_cases h : i = i'
  · subst h
    have e : twoK i a i a' = [(Sum.inl i, V.str a')] := by simp [twoK, mergeK, putK]
    rw [e]
    by_cases hj : i = j
    · rw [if_pos hj, valV_pos (by show (Sum.inl i : L2.Key) = _; rw [hj])]
    · rw [if_neg hj, if_neg hj, valV_neg (by simpa using hj), valV_nil]
  · have e : twoK i a i' a' = [(Sum.inl i, V.str a), (Sum.inl i', V.str a')] := by simp [twoK, mergeK, putK, h]
    rw [e]
    by_cases hj : i = j
    · have hj' : ¬ i' = j := fun q => h (hj.trans q.symm)
      rw [if_neg hj', if_pos hj, valV_pos (by show (Sum.inl i : L2.Key) = _; rw [hj])]
    · rw [valV_neg (by simpa using hj)]
      by_cases hj' : i' = j
      · rw [if_pos hj', valV_pos (by show (Sum.inl i' : L2.Key) = _; rw [hj'])]
      · rw [if_neg hj', if_neg hj, valV_neg (by simpa using hj'), valV_nil]
theorem getR_fin {Ek : XK} {β : Type} {Fin : Wd → Out β → Prop} (hF : FinOk g Ek Fin) {w : Wd} {i i' : Int} {a a' : Str} {x y : Rv} {μ : Mu} {f : Rv → Mu → Out β} (h : Fin w ((getR i a i' a' x y μ).bind f)) : ∃ j d, x = .p (.int j) ∧ y = .p d ∧ Fin w (f (if i' = j then .p (.str a') else if i = j then .p (.str a) else .p d) μ) := by
  unfold getR intR at h
  split at h
  · rename_i j
    split at h
    · rename_i d
      refine ⟨j, d, rfl, rfl, ?_⟩
      change Fin w ((if i' = j then Out.ok (Rv.p (P.str a')) μ else if i = j then Out.ok (Rv.p (P.str a)) μ else Out.ok (Rv.p d) μ).bind f) at h
      split at h
      · rename_i c; rw [if_pos c]; exact h
      · rename_i c
        rw [if_neg c]
        split at h
        · rename_i c2; rw [if_pos c2]; exact h
        · rename_i c2; rw [if_neg c2]; exact h
    · exact (hF.bad _ h).elim
  · exact (hF.bad _ h).elim
theorem se_get {n n' : Expr} {c c' e f : Expr} {ek ed : E} {x x' : Str} {i i' : Int} {a a' : Str} {dp apos cpos : Pos}
    (hn : ∀ X : Cx, FrOk g k fr X → PE X n (tC (.int i))) (hn' : ∀ X : Cx, FrOk g k fr X → PE X n' (tC (.int i'))) (hc : ∀ X : Cx, PE X c (tC (.str a))) (hc' : ∀ X : Cx, PE X c' (tC (.str a')))
    (hline : (apos.endLine == cpos.line) = true) (pe : Pl e) (pf : Pl f) (ihe : SE g k cl fr e ek) (ihf : SE g k cl fr f ed) :
    SE g k cl fr (.Call (.Attribute (.Dict [some n, some n'] [c, c'] dp) "get" apos) [e, f] [] cpos) (.get x i a x' i' a' ek ed) := by
  intro X hf W hW t ρ μ w σ Q hm hρ hp
  cases t with
  | true => exact (show False from hp).elim
  | false =>
    simp only [evE, Bool.false_eq_true, if_false] at hp
    have hpe : PE X (.Call (.Attribute (.Dict [some n, some n'] [c, c'] dp) "get" apos) [e, f] [] cpos) (tDGet2 (tDisp [(tC (.int i), tC (.str a)), (tC (.int i'), tC (.str a'))]) (wE X e) (wE X f)) :=
      pe_dget2 (by have := hf.x.un; omega) (pe_disp (pps_cons (hn X hf) (hc X) (pps_cons (hn' X hf) (hc' X) pps_nil)) rfl rfl (by simp) (by simp)) pe_w pe_w
        ⟨rfl, by rw [pe [f] X.env, pf [] X.env]; rfl, hline, by rw [pe [f] X.env, pf [] X.env]; rfl⟩
    refine wE_of hpe ?_
    intro p hpn
    refine ⟨by show upd w.H p _ p = _; rw [upd_same], [(Sum.inl i, V.str a), (Sum.inl i', V.str a')], rfl, by simp, ?_⟩
    have hu : upd (upd w.H p (.dK [])) p (.dK (mergeK [] [(Sum.inl i, V.str a), (Sum.inl i', V.str a')])) = upd w.H p (.dK (twoK i a i' a')) := upd_twice
    rw [hu]
    obtain ⟨g0, m0⟩ := new_Hb hm (o := .dK (twoK i a i' a')) hpn
    refine ⟨p, rfl, .inl ⟨_, .inl upd_same⟩, ?_⟩
    have hρ0 := hρ.grow g0
    have fin := post_fin g cl.scr (WE W σ) Q
    have hp0 := fin.grow _ _ _ g0 hp
    refine ihe.bind hf hW m0 hρ0 fin hp0 fun r1 μ1 w1 v1 _ g1 m1 rr1 f1 hρ1 hp1 => ?_
    refine ihf.bind hf hW m1 hρ1 fin hp1 fun r2 μ2 w2 v2 _ g2 m2 rr2 f2 hρ2 hp2 => ?_
    have hkeep : w2.H p = some (.dK (twoK i a i' a')) := m2.sub _ _ (g2.hb _ _ (g1.hb _ _ upd_same))
    have hp2' : Post g cl.scr w2 (WE W σ) Q ((getR i a i' a' r1 r2 μ2).bind fun r μ => .ok r μ) := by
      have e : (getR i a i' a' r1 r2 μ2).bind (fun r μ => Out.ok r μ) = getR i a i' a' r1 r2 μ2 := by
        cases getR i a i' a' r1 r2 μ2 <;> rfl
      rw [e]
      exact hp2
    obtain ⟨j, d, rfl, rfl, hp3⟩ := getR_fin (post_fin g cl.scr (WE W σ) Q) hp2'
    have e1 : v1 = .int j := rr1
    subst e1
    refine ⟨_, DGet.k hkeep (k := Sum.inl j), ?_⟩
    rw [twoK_get]
    by_cases c1 : i' = j
    · rw [if_pos c1] at hp3 ⊢
      exact post_p m2 hp3 rfl
    · rw [if_neg c1] at hp3 ⊢
      by_cases c2 : i = j
      · rw [if_pos c2] at hp3 ⊢
        exact post_p m2 hp3 rfl
      · rw [if_neg c2] at hp3 ⊢
        exact post_p m2 hp3 rr2
end
end R

set_option Elab.async false
set_option linter.all false
set_option maxRecDepth 100000
set_option maxHeartbeats 4000000
/-! # R13: a term of the language against the program's text, expressions -/
namespace R
open PySem L2 PyProof.Rows PySem.W
/-! ### what is asked of a text -/
def plain : Expr → Bool
  | .Starred .. => false
  | _ => true
theorem pl_of {a : Expr} (h : plain a = true) : Pl a := by
  intro r env
  cases a <;> first | rfl | cases h
theorem pl_any {pos : Pos} : ∀ {as : List Expr}, as.all plain = true → ∀ env : PySem.Env, (backTo pos (starEach as env)).any (·.1) = false
  | [], _, _ => rfl
  | a :: as, h, env => by
    rw [List.all_cons, Bool.and_eq_true] at h
    rw [pl_of h.1 as env]
    show (false || (backTo pos (starEach as env)).any (·.1)) = false
    rw [Bool.false_or]
    exact pl_any h.2 env
def plainIx : Expr → Bool
  | .Slice .. => false
  | _ => true
theorem ix_of {a : Expr} (h : plainIx a = true) : PlainIx a := by
  intro o i
  cases a <;> first | rfl | cases h
def notCall0 : Expr → Bool
  | .Call (.Name _ _) [] [] _ => false
  | _ => true
theorem base_of {o : Expr} {n : Str} (h : notCall0 o = true) (env : PySem.Env) : attributeBase o n env (eval o env) = eval o env := by
  unfold attributeBase
  split
  · cases h
  · rfl
def notSet : Expr → Bool
  | .Set .. => false
  | _ => true
theorem nset_of {a : Expr} (h : notSet a = true) : ∀ env x, foldedSetIterable a env x = pure x := by
  intro env x
  unfold foldedSetIterable
  cases a <;> first | rfl | cases h
def notComp : Expr → Bool
  | .ListComp .. => false
  | .SetComp .. => false
  | .DictComp .. => false
  | _ => true
theorem sw_of {a : Expr} {t : Option Expr} {n : Nat} (h : notComp a = true) (env : PySem.Env) : swapsWith a t n env = pure false := by
  cases a <;> first | rfl | cases h
def glIs (fr : FrI) (x : Str) : Bool := fr.sc.names.lookup x == some .globalImplicit && !(x == ("__debug__" : Str))
theorem gl_of {fr : FrI} {x : Str} (h : glIs fr x = true) : fr.sc.names.lookup x = some .globalImplicit ∧ (x == ("__debug__" : Str)) = false := by
  unfold glIs at h
  rw [Bool.and_eq_true, beq_iff_eq, Bool.not_eq_true'] at h
  exact h
def cstOk : Expr → P → Bool
  | .Constant .none _ _, .non => true
  | .Constant (.bool b) _ _, .bl c => b == c
  | .Constant (.int i) _ _, .int j => i == j
  | .Constant (.str s) _ _, .str t => s == t
  | _, _ => false
theorem cst_of {g : Gx} {a : Expr} {d : P} (h : cstOk a d = true) : (∀ X : Cx, ∃ v, PE X a (tC v) ∧ ∀ H, Rep g H d v) ∧ TruE a := by
  unfold cstOk at h
  split at h
  · exact ⟨fun X => ⟨_, pe_non, fun _ => rfl⟩, fun _ _ => rfl⟩
  · rw [beq_iff_eq] at h
    subst h
    exact ⟨fun X => ⟨_, pe_bl, fun _ => rfl⟩, fun _ _ => rfl⟩
  · rw [beq_iff_eq] at h
    subst h
    exact ⟨fun X => ⟨_, pe_int, fun _ => rfl⟩, fun _ _ => rfl⟩
  · rw [beq_iff_eq] at h
    subst h
    exact ⟨fun X => ⟨_, pe_str, fun _ => rfl⟩, fun _ _ => rfl⟩
  · cases h
def varIs (fr : FrI) (x : Str) : Bool := (match fr.sc.names.lookup x with | some .local => true | some .cell => true | some .free => true | _ => false) && !(x == ("__debug__" : Str)) && !(x == ("__classdict__" : Str))
def nmB : Bi → Str
  | .len => "len" | .sum => "sum" | .max1 => "max" | .min1 => "min" | .max2 => "max" | .min2 => "min"
  | .all => "all" | .any => "any" | .abs => "abs" | .list => "list" | .tuple => "tuple" | .str => "str" | .int => "int"
  | .srt => "sorted" | .sset => "set" | .isi _ => "isinstance"
def bi1 : Bi → Bool
  | .len | .sum | .max1 | .min1 | .all | .any | .abs | .list | .tuple | .str | .int => true
  | _ => false
def bi2 : Bi → Bool
  | .max2 | .min2 => true
  | _ => false
theorem bi1_of {b : Bi} (h : bi1 b = true) : nmB b ∈ bnames ∧ bootBuiltins (nmB b) = some (fnB b) ∧ ((∃ id, fnB b = .builtin id) ∨ ∃ T, fnB b = .type T) ∧ nmB b ≠ "__name__" := by
  cases b <;> first | (cases h; done) | refine ⟨by decide +kernel, by decide +kernel, ?_, by decide +kernel⟩
  all_goals first | exact .inl ⟨_, rfl⟩ | exact .inr ⟨_, rfl⟩
theorem bi2_of {b : Bi} (h : bi2 b = true) : nmB b ∈ bnames ∧ bootBuiltins (nmB b) = some (fnB b) ∧ (∃ id, fnB b = .builtin id) ∧ nmB b ≠ "__name__" := by
  cases b <;> first | (cases h; done) | refine ⟨by decide +kernel, by decide +kernel, ?_, by decide +kernel⟩
  all_goals exact ⟨_, rfl⟩
def isiIs (c : Str) : Bool := c == ("int" : Str) || c == ("bool" : Str) || c == ("tuple" : Str) || c == ("list" : Str)
def nmM : Me → Str
  | .split => "split" | .join => "join" | .endsw => "endswith"
theorem me_of (m : Me) : Slot "str" (nmM m) (idM m) ∧ typeOf (.builtin (idM m)) = pure (.type "method_descriptor") := by
  cases m
  · exact ⟨PySem.F.slot_str_split, PySem.F.type_str_split⟩
  · exact ⟨PySem.F.slot_str_join, PySem.F.type_str_join⟩
  · exact ⟨PySem.F.slot_str_endswith, PySem.F.type_str_endswith⟩
/-- a block's scope -/
def blkIs (N : List Str) (sc scope : Scope) (own : List (Str × Nat)) : Bool :=
  scope.kind == .function && scope.names.all (fun y => scope.names.lookup y.1 == some y.2) && own.all (fun p => N[p.2]? == some p.1) &&
  scope.names.all (fun y => !(y.2 == .free) || sc.names.lookup y.1 == some .cell || sc.names.lookup y.1 == some .free) &&
  scope.names.all (fun y => !(y.2 == .local || y.2 == .cell) || (own.map (·.1)).contains y.1 || !N.contains y.1)
theorem blk_of {N : List Str} {sc scope : Scope} {own : List (Str × Nat)} (h : blkIs N sc scope own = true) : BlkOk N sc scope own := by
  unfold blkIs at h
  simp only [Bool.and_eq_true, List.all_eq_true, beq_iff_eq, Bool.or_eq_true, Bool.not_eq_true', List.contains_eq_mem, decide_eq_true_eq, decide_eq_false_iff_not] at h
  obtain ⟨⟨⟨⟨h1, h2⟩, h3⟩, h4⟩, h5⟩ := h
  refine ⟨h1, h2, h3, fun y hy e => ?_, fun y hy e => ?_⟩
  · rcases h4 y hy with (h | h) | h
    · rw [e] at h; exact absurd h (by decide)
    · exact .inl h
    · exact .inr h
  · rcases h5 y hy with (h | h) | h
    · rcases e with e | e <;> rw [e] at h <;> exact absurd h (by decide)
    · exact .inl h
    · exact .inr h
/-- a name that may be stored -/
def stoIs (fr : FrI) (x : Str) : Bool := fr.sc.names.lookup x == some .local || (fr.sc.names.lookup x == some .cell && fr.fnl x)
theorem sto_of {fr : FrI} {x : Str} (h : stoIs fr x = true) : fr.sc.names.lookup x = some .local ∨ (fr.sc.names.lookup x = some .cell ∧ fr.fnl x = true) := by
  unfold stoIs at h
  rw [Bool.or_eq_true, Bool.and_eq_true, beq_iff_eq, beq_iff_eq] at h
  exact h
def namesIs (fr : FrI) : List Expr → List Nat → Bool
  | [], [] => true
  | .Name x _ :: es, i :: is => fr.N[i]? == some x && stoIs fr x && namesIs fr es is
  | _, _ => false
/-- a target -/
def tgIs (fr : FrI) (tup : Bool) (is : List Nat) (a : Expr) : Bool := match tup, is, a with
  | false, [i], .Name x _ => fr.N[i]? == some x && stoIs fr x
  | true, is, .Tuple es _ _ => namesIs fr es is
  | _, _, _ => false
def ownOf (N : List Str) : List Nat → List (Str × Nat)
  | [] => []
  | i :: is => ((N[i]?).getD "", i) :: ownOf N is
theorem ownOf_ix (N : List Str) : ∀ is : List Nat, (ownOf N is).map (·.2) = is
  | [] => rfl
  | i :: is => by
    show i :: _ = _
    rw [ownOf_ix N is]
section
variable {g : Gx} {k : Nat} {fr : FrI}
theorem names_pg {X : Cx} (hf : FrOk g k fr X) : ∀ {es : List Expr} {is : List Nat}, namesIs fr es is = true → TgNames X es is
  | [], [], _ => .nil
  | [], _ :: _, h => by simp [namesIs] at h
  | .Name x p :: es, i :: is, h => by
    simp only [namesIs, Bool.and_eq_true, beq_iff_eq] at h
    obtain ⟨⟨h1, h2⟩, h3⟩ := h
    obtain ⟨l1, l2⟩ := lc_of hf (sto_of h2)
    exact .cons (by rw [hf.hN]; exact h1) l1 l2 (names_pg hf h3)
  | a :: es, [], h => by cases a <;> simp [namesIs] at h
theorem tg_of {scr : List Int} {tup : Bool} {is : List Nat} {a : Expr} (h : tgIs fr tup is a = true) : ∃ G, (∀ X, FrOk g k fr X → PG X a G) ∧ TgRun g scr tup is G := by
  unfold tgIs at h
  split at h
  · rename_i i x p
    simp only [Bool.and_eq_true, beq_iff_eq] at h
    exact ⟨gName i, fun X hf => by
      obtain ⟨l1, l2⟩ := lc_of hf (sto_of h.2)
      exact pg_name (by rw [hf.hN]; exact hf.nd) (by rw [hf.hN]; exact h.1) l1 l2, tg_name⟩
  · rename_i es kk p
    refine ⟨gTup g.K is.length (gTgs is), fun X hf => ?_, tg_tup⟩
    rw [← hf.x.K]
    exact tg_tup_pg hf.x.calm (by rw [hf.hN]; exact hf.nd) (names_pg hf h)
  · cases h
end
/-! ### expressions -/
mutual
def chkE (nm : Nm) : E → FrI → Expr → Bool
  | .cst d, _, a => cstOk a d
  | .var i, fr, a => match a with
    | .Name x _ => fr.N[i]? == some x && varIs fr x
    | _ => false
  | .glb y d, fr, a => match a, d with
    | .Name x _, .int i => x == y && glIs fr x && (match nm.gl.lookup x with | some (.int j) => i == j | _ => false)
    | .Name x _, .str i => x == y && glIs fr x && (match nm.gl.lookup x with | some (.str j) => i == j | _ => false)
    | _, _ => false
  | .bin op e f, fr, a => match a with
    | .BinOp l o r _ => op == o && chkE nm e fr l && chkE nm f fr r
    | _ => false
  | .neg e, fr, a => match a with
    | .UnaryOp .USub l _ => chkE nm e fr l
    | _ => false
  | .not e, fr, a => match a with
    | .UnaryOp .Not l _ => chkE nm e fr l
    | _ => false
  | .boo isAnd es, fr, a => match a with
    | .BoolOp o as _ => o == (if isAnd then .And else .Or) && !as.isEmpty && chkEs nm es fr as
    | _ => false
  | .cmp op e f, fr, a => match a with
    | .Compare l [o] [r] _ => op == o && !(behindInMarks o r) && chkE nm e fr l && chkE nm f fr r
    | _ => false
  | .chn op op' e f h, fr, a => match a with
    | .Compare l [o, o'] [r, s] _ => op == o && op' == o' && !(lastMarks [o, o'] [r, s]) && chkE nm e fr l && chkE nm f fr r && chkE nm h fr s
    | _ => false
  | .ife c e f, fr, a => match a with
    | .IfExp t x y _ => chkE nm c fr t && chkE nm e fr x && chkE nm f fr y
    | _ => false
  | .call i es, fr, a => match a with
    | .Call (.Name x _) (b :: bs) [] _ => (match nm.fns[i]? with | some (y, n) => x == y && (b :: bs).length == n | none => false) && glIs fr x && (b :: bs).all plain && chkEs nm es fr (b :: bs)
    | _ => false
  | .call0 i, fr, a => match a with
    | .Call (.Name x _) [] [] _ => (match nm.fns[i]? with | some (y, n) => x == y && n == 0 | none => false) && glIs fr x
    | _ => false
  | .bi b e, fr, a => match a with
    | .Call (.Name x _) [l] [] _ => x == nmB b && bi1 b && glIs fr x && plain l && chkE nm e fr l
    | .Call (.Name x _) [l, .Name c _] [] _ => x == ("isinstance" : Str) && (match b with | .isi c' => c == c' | _ => false) && isiIs c && glIs fr x && glIs fr c && plain l && chkE nm e fr l
    | _ => false
  | .bi2 b e f, fr, a => match a with
    | .Call (.Name x _) [l, r] [] _ => x == nmB b && bi2 b && glIs fr x && plain l && plain r && chkE nm e fr l && chkE nm f fr r
    | _ => false
  | .me m e f, fr, a => match a with
    | .Call (.Attribute o n ap) [r] [] cp => n == nmM m && notCall0 o && ap.endLine == cp.line && plain r && chkE nm e fr o && chkE nm f fr r
    | _ => false
  | .idx e f, fr, a => match a with
    | .Subscript l r _ => plainIx r && chkE nm e fr l && chkE nm f fr r
    | _ => false
  | .slc e lo hi, fr, a => match a with
    | .Subscript l (.Slice x y none _) _ => chkE nm e fr l && chkO nm lo fr x && chkO nm hi fr y
    | _ => false
  | .rev e, fr, a => match a with
    | .Subscript l (.Slice none none (some (.UnaryOp .USub (.Constant (.int 1) _ _) _)) _) _ => chkE nm e fr l
    | _ => false
  | .slb e hi lo, fr, a => match a with
    | .Subscript l (.Slice (some (.Constant (.int i) _ _)) (some (.Constant (.int j) _ _)) (some (.UnaryOp .USub (.Constant (.int 1) _ _) _)) _) _ => i == (hi : Int) && j == (lo : Int) && chkE nm e fr l
    | _ => false
  | .lst es, fr, a => match a with
    | .List as _ => as.all plain && chkEs nm es fr as
    | _ => false
  | .tup es, fr, a => match a with
    | .Tuple as _ _ => as.all plain && chkEs nm es fr as
    | _ => false
  | .lrng e f, fr, a => match a with
    | .Call (.Name x _) [.Call (.Name y _) [l, r] [] _] [] _ => x == ("list" : Str) && y == ("range" : Str) && glIs fr x && glIs fr y && plain l && plain r && chkE nm e fr l && chkE nm f fr r
    | _ => false
  | .comp e tup tg rng it ifs own, fr, a => match a with
    | .ListComp elt [⟨t, iter, cs, asy⟩] scope _ => asy == 0 && blkIs fr.N fr.sc scope (ownOf fr.N own) && tgIs (frB fr scope) tup tg t && tg.all own.contains && notSet iter && cs.length ≤ 1 && chkI nm rng it fr iter && chkEs nm ifs (frB fr scope) cs && chkE nm e (frB fr scope) elt
    | _ => false
  | .get x i a x' i' a' e f, fr, b => match b with
    | .Call (.Attribute (.Dict [some (.Name y _), some (.Name y' _)] [.Constant (.str c) _ _, .Constant (.str c') _ _] _) m ap) [l, r] [] cp => m == ("get" : Str) && y == x && y' == x' && c == a && c' == a' && glIs fr y && glIs fr y' && (match nm.gl.lookup y with | some (.int j) => i == j | _ => false) && (match nm.gl.lookup y' with | some (.int j) => i' == j | _ => false) && ap.endLine == cp.line && plain l && plain r && chkE nm e fr l && chkE nm f fr r
    | _ => false
  | .isx c e, fr, a => match a with
    | .Call (.Name x _) [l, .Name c' _] [] _ => x == ("isinstance" : Str) && c == c' && glIs fr x && glIs fr c' && plain l && chkE nm e fr l
    | _ => false
  | .lm ix e f, fr, a => match a with
    | .Call (.Attribute o n ap) [r] [] cp => n == (if ix then ("index" : Str) else "count") && notCall0 o && ap.endLine == cp.line && plain r && chkE nm e fr o && chkE nm f fr r
    | _ => false
def chkEs (nm : Nm) : List E → FrI → List Expr → Bool
  | [], _, as => as.isEmpty
  | e :: es, fr, as => match as with
    | a :: as => chkE nm e fr a && chkEs nm es fr as
    | [] => false
def chkO (nm : Nm) : Option E → FrI → Option Expr → Bool
  | none, _, a => a.isNone
  | some e, fr, a => match a with
    | some a => chkE nm e fr a
    | none => false
def chkI (nm : Nm) (rng : Bool) : List E → FrI → Expr → Bool
  | [], _, _ => false
  | [e], fr, a => if rng then (match a with
      | .Call (.Name x _) [l] [] _ => x == ("range" : Str) && glIs fr x && plain l && chkE nm e fr l
      | _ => false) else chkE nm e fr a
  | [e, f], fr, a => rng && (match a with
      | .Call (.Name x _) [l, r] [] _ => x == ("range" : Str) && glIs fr x && plain l && plain r && chkE nm e fr l && chkE nm f fr r
      | _ => false)
  | [e, f, h], fr, a => rng && (match a with
      | .Call (.Name x _) [l, r, s] [] _ => x == ("range" : Str) && glIs fr x && plain l && plain r && plain s && chkE nm e fr l && chkE nm f fr r && chkE nm h fr s
      | _ => false)
  | _ :: _ :: _ :: _ :: _, _, _ => false
end
section
variable {g : Gx} {k : Nat} {cl : Cl} {nm : Nm}
def SEs (g : Gx) (k : Nat) (cl : Cl) (fr : FrI) : List Expr → List E → Prop
  | [], [] => True
  | a :: as, e :: es => SE g k cl fr a e ∧ SEs g k cl fr as es
  | _, _ => False
theorem SEs.sa {fr : FrI} : ∀ {as : List Expr} {es : List E}, as.all plain = true → SEs g k cl fr as es → SA g k cl fr as es
  | [], [], _, _ => sa_nil
  | a :: as, e :: es, h, h2 => by
    rw [List.all_cons, Bool.and_eq_true] at h
    exact sa_cons (pl_of h.1 as) h2.1 (SEs.sa h.2 h2.2)
  | [], _ :: _, _, h2 => h2.elim
  | _ :: _, [], _, h2 => h2.elim
theorem SEs.sf {fr : FrI} : ∀ {as : List Expr} {es : List E}, as.all plain = true → SEs g k cl fr as es → SF g k cl fr as es
  | [], [], _, _ => sf_nil
  | a :: as, e :: es, h, h2 => by
    rw [List.all_cons, Bool.and_eq_true] at h
    exact sf_cons (pl_of h.1 as) h2.1 (SEs.sf h.2 h2.2)
  | [], _ :: _, _, h2 => h2.elim
  | _ :: _, [], _, h2 => h2.elim
theorem SEs.sb {fr : FrI} {isAnd : Bool} : ∀ {as : List Expr} {es : List E}, as ≠ [] → SEs g k cl fr as es → SB g k cl fr isAnd as es
  | [], [], h, _ => absurd rfl h
  | [a], [e], _, h2 => sb_one h2.1
  | a :: b :: as, e :: f :: es, _, h2 => sb_cons h2.1 (SEs.sb (by simp) h2.2)
  | [], _ :: _, _, h2 => h2.elim
  | _ :: _, [], _, h2 => h2.elim
  | [_], _ :: _ :: _, _, h2 => h2.2.elim
  | _ :: _ :: _, [_], _, h2 => h2.2.elim
theorem SEs.sif {fr : FrI} {as : List Expr} {es : List E} (hl : as.length ≤ 1) (h : SEs g k cl fr as es) : SIf g k cl fr as es := by
  match as, es, h with
  | [], [], _ => exact sif_nil
  | [a], [e], h => exact sif_one h.1
  | [], _ :: _, h => exact h.elim
  | _ :: _, [], h => exact h.elim
  | [_], _ :: _ :: _, h => exact h.2.elim
  | _ :: _ :: _, _ :: _, _ => simp at hl
theorem var_pe {fr : FrI} {x : Str} {i : Nat} {p : Pos} (h1 : fr.N[i]? = some x) (h2 : varIs fr x = true) : ∀ X : Cx, FrOk g k fr X → PE X (.Name x p) (tVar i) := fun X hf => by
  unfold varIs at h2
  simp only [Bool.and_eq_true, Bool.not_eq_true'] at h2
  obtain ⟨⟨h3, h4⟩, h5⟩ := h2
  have hsc : X.env.scope = fr.sc := hf.sc
  refine pe_var (by rw [hf.hN]; exact h1) ?_ h4 h5
  unfold Vis
  rw [hsc]
  split at h3
  · exact .inl (by assumption)
  · exact .inr (.inl (by assumption))
  · exact .inr (.inr (by assumption))
  · cases h3
theorem len_eq {α : Type} [BEq α] (a b : Nat) (h : (a == b) = true) : a = b := by simpa using h
mutual
theorem okE (hF : Facts g k cl nm) : ∀ (e : E) (fr : FrI) (a : Expr), chkE nm e fr a = true → SE g k cl fr a e
  | .cst d, fr, a, h => by
    simp only [chkE] at h
    obtain ⟨h1, h2⟩ := cst_of (g := g) h
    exact se_cst h1 h2
  | .var i, fr, a, h => by
    simp only [chkE] at h
    split at h
    · simp only [Bool.and_eq_true, beq_iff_eq] at h
      exact se_var (var_pe h.1 h.2) fun _ _ => rfl
    · cases h
  | .glb y d, fr, a, h => by
    simp only [chkE] at h
    split at h
    · rename_i x p i
      simp only [Bool.and_eq_true, beq_iff_eq] at h
      obtain ⟨⟨h1, h2⟩, h3⟩ := h
      split at h3
      · rename_i j hj
        rw [beq_iff_eq] at h3
        subst h3
        obtain ⟨u, v, k1, k2, k3⟩ := hF.gl _ _ hj
        refine se_glb fun X hf => ⟨v, pe_glob ?_ (by rw [hf.x.mg]; exact k1) k2 (gl_of h2).2, k3⟩
        show X.env.scope.names.lookup _ = _
        rw [hf.sc]
        exact (gl_of h2).1
      · cases h3
    · rename_i x p i
      simp only [Bool.and_eq_true, beq_iff_eq] at h
      obtain ⟨⟨h1, h2⟩, h3⟩ := h
      split at h3
      · rename_i j hj
        rw [beq_iff_eq] at h3
        subst h3
        obtain ⟨u, v, k1, k2, k3⟩ := hF.gl _ _ hj
        refine se_glb fun X hf => ⟨v, pe_glob ?_ (by rw [hf.x.mg]; exact k1) k2 (gl_of h2).2, k3⟩
        show X.env.scope.names.lookup _ = _
        rw [hf.sc]
        exact (gl_of h2).1
      · cases h3
    · cases h
  | .bin op e f, fr, a, h => by
    simp only [chkE] at h
    split at h
    · simp only [Bool.and_eq_true, beq_iff_eq] at h
      obtain ⟨⟨h1, h2⟩, h3⟩ := h
      subst h1
      exact se_bin (okE hF e fr _ h2) (okE hF f fr _ h3)
    · cases h
  | .neg e, fr, a, h => by
    simp only [chkE] at h
    split at h
    · exact se_neg (okE hF e fr _ h)
    · cases h
  | .not e, fr, a, h => by
    simp only [chkE] at h
    split at h
    · exact se_not (okE hF e fr _ h)
    · cases h
  | .boo isAnd es, fr, a, h => by
    simp only [chkE] at h
    split at h
    · simp only [Bool.and_eq_true, beq_iff_eq] at h
      obtain ⟨⟨h1, h2⟩, h3⟩ := h
      subst h1
      exact se_boo ((okEs hF es fr _ h3).sb (by intro e; rw [e] at h2; cases h2))
    · cases h
  | .cmp op e f, fr, a, h => by
    simp only [chkE] at h
    split at h
    · simp only [Bool.and_eq_true, beq_iff_eq, Bool.not_eq_true'] at h
      obtain ⟨⟨⟨h1, h2⟩, h3⟩, h4⟩ := h
      subst h1
      exact se_cmp h2 (okE hF e fr _ h3) (okE hF f fr _ h4)
    · cases h
  | .chn op op' e f c, fr, a, h => by
    simp only [chkE] at h
    split at h
    · simp only [Bool.and_eq_true, beq_iff_eq, Bool.not_eq_true'] at h
      obtain ⟨⟨⟨⟨⟨h1, h2⟩, h3⟩, h4⟩, h5⟩, h6⟩ := h
      subst h1 h2
      exact se_chn h3 (okE hF e fr _ h4) (okE hF f fr _ h5) (okE hF c fr _ h6)
    · cases h
  | .ife c e f, fr, a, h => by
    simp only [chkE] at h
    split at h
    · simp only [Bool.and_eq_true] at h
      obtain ⟨⟨h1, h2⟩, h3⟩ := h
      exact se_ife (okE hF c fr _ h1) (okE hF e fr _ h2) (okE hF f fr _ h3)
    · cases h
  | .call i es, fr, a, h => by
    simp only [chkE] at h
    split at h
    · rename_i x p b bs pos
      simp only [Bool.and_eq_true] at h
      obtain ⟨⟨⟨h1, h2⟩, h3⟩, h4⟩ := h
      split at h1
      · rename_i y n hn
        simp only [Bool.and_eq_true, beq_iff_eq] at h1
        obtain ⟨h5, h6⟩ := h1
        subst h5
        have h7 := h3
        rw [List.all_cons, Bool.and_eq_true] at h7
        exact se_call hF hn h6 (gl_of h2).1 (gl_of h2).2 (pl_of h7.1 bs) (pl_any h7.2) ((okEs hF es fr _ h4).sa h3)
      · cases h1
    · cases h
  | .call0 i, fr, a, h => by
    simp only [chkE] at h
    split at h
    · simp only [Bool.and_eq_true] at h
      obtain ⟨h1, h2⟩ := h
      split at h1
      · rename_i y n hn
        simp only [Bool.and_eq_true, beq_iff_eq] at h1
        obtain ⟨h5, h6⟩ := h1
        subst h5 h6
        exact se_call0 hF hn (gl_of h2).1 (gl_of h2).2
      · cases h1
    · cases h
  | .bi b e, fr, a, h => by
    simp only [chkE] at h
    split at h
    · simp only [Bool.and_eq_true, beq_iff_eq] at h
      obtain ⟨⟨⟨⟨h1, h2⟩, h3⟩, h4⟩, h5⟩ := h
      subst h1
      obtain ⟨k1, k2, k3, k4⟩ := bi1_of h2
      exact se_bi hF k1 k2 k3 (gl_of h3).1 k4 (gl_of h3).2 (pl_of h4 []) (okE hF e fr _ h5)
    · rename_i x p l c pc pos
      simp only [Bool.and_eq_true, beq_iff_eq] at h
      obtain ⟨⟨⟨⟨⟨⟨h1, h2⟩, h3⟩, h4⟩, h5⟩, h6⟩, h7⟩ := h
      split at h2
      · rename_i c'
        rw [beq_iff_eq] at h2
        subst h2 h1
        unfold isiIs at h3
        simp only [Bool.or_eq_true, beq_iff_eq] at h3
        rcases h3 with ((rfl | rfl) | rfl) | rfl
        · exact se_isi (c := "int") hF rfl (.inl rfl) (gl_of h4).1 (gl_of h5).1 (fun b env => pl_of h6 [b] env) (okE hF e fr _ h7)
        · exact se_isi (c := "bool") hF rfl (.inr (.inl rfl)) (gl_of h4).1 (gl_of h5).1 (fun b env => pl_of h6 [b] env) (okE hF e fr _ h7)
        · exact se_isi (c := "tuple") hF rfl (.inr (.inr (.inl rfl))) (gl_of h4).1 (gl_of h5).1 (fun b env => pl_of h6 [b] env) (okE hF e fr _ h7)
        · exact se_isi (c := "list") hF rfl (.inr (.inr (.inr rfl))) (gl_of h4).1 (gl_of h5).1 (fun b env => pl_of h6 [b] env) (okE hF e fr _ h7)
      · cases h2
    · cases h
  | .bi2 b e f, fr, a, h => by
    simp only [chkE] at h
    split at h
    · simp only [Bool.and_eq_true, beq_iff_eq] at h
      obtain ⟨⟨⟨⟨⟨⟨h1, h2⟩, h3⟩, h4⟩, h5⟩, h6⟩, h7⟩ := h
      subst h1
      obtain ⟨k1, k2, k3, k4⟩ := bi2_of h2
      exact se_bi2 hF k1 k2 k3 (gl_of h3).1 k4 (gl_of h3).2 (pl_of h4 _) (pl_of h5 []) (okE hF e fr _ h6) (okE hF f fr _ h7)
    · cases h
  | .me m e f, fr, a, h => by
    simp only [chkE] at h
    split at h
    · simp only [Bool.and_eq_true] at h
      obtain ⟨⟨⟨⟨⟨h1, h2⟩, h3⟩, h4⟩, h5⟩, h6⟩ := h
      rw [beq_iff_eq] at h1
      subst h1
      exact se_me (me_of m).1 (me_of m).2 (fun env => base_of h2 env) h3 (pl_of h4 []) (okE hF e fr _ h5) (okE hF f fr _ h6)
    · cases h
  | .idx e f, fr, a, h => by
    simp only [chkE] at h
    split at h
    · simp only [Bool.and_eq_true] at h
      obtain ⟨⟨h1, h2⟩, h3⟩ := h
      exact se_idx (ix_of h1) (okE hF e fr _ h2) (okE hF f fr _ h3)
    · cases h
  | .slc e lo hi, fr, a, h => by
    simp only [chkE] at h
    split at h
    · simp only [Bool.and_eq_true] at h
      obtain ⟨⟨h1, h2⟩, h3⟩ := h
      exact se_slc (okE hF e fr _ h1) (okO hF lo fr _ h2) (okO hF hi fr _ h3)
    · cases h
  | .rev e, fr, a, h => by
    simp only [chkE] at h
    split at h
    · exact se_rev (okE hF e fr _ h)
    · cases h
  | .slb e hi lo, fr, a, h => by
    simp only [chkE] at h
    split at h
    · simp only [Bool.and_eq_true, beq_iff_eq] at h
      obtain ⟨⟨h1, h2⟩, h3⟩ := h
      subst h1 h2
      exact se_slb (okE hF e fr _ h3)
    · cases h
  | .lst es, fr, a, h => by
    simp only [chkE] at h
    split at h
    · simp only [Bool.and_eq_true] at h
      exact se_lst ((okEs hF es fr _ h.2).sf h.1)
    · cases h
  | .tup es, fr, a, h => by
    simp only [chkE] at h
    split at h
    · simp only [Bool.and_eq_true] at h
      exact se_tup ((okEs hF es fr _ h.2).sf h.1)
    · cases h
  | .lrng e f, fr, a, h => by
    simp only [chkE] at h
    split at h
    · simp only [Bool.and_eq_true, beq_iff_eq] at h
      obtain ⟨⟨⟨⟨⟨⟨⟨h1, h2⟩, h3⟩, h4⟩, h5⟩, h6⟩, h7⟩, h8⟩ := h
      subst h1 h2
      exact se_lrng hF (gl_of h3).1 (gl_of h4).1 (pl_of h5 _) (pl_of h6 []) (okE hF e fr _ h7) (okE hF f fr _ h8)
    · cases h
  | .comp e tup tg rng it ifs own, fr, a, h => by
    simp only [chkE] at h
    split at h
    · rename_i elt t iter cs asy scope pos
      simp only [Bool.and_eq_true, decide_eq_true_eq] at h
      obtain ⟨⟨⟨⟨⟨⟨⟨⟨h0, h1⟩, h2⟩, h3⟩, h4⟩, h5⟩, h6⟩, h7⟩, h8⟩ := h
      rw [beq_iff_eq] at h0
      subst h0
      obtain ⟨G, k1, k2⟩ := tg_of (g := g) (k := k) (scr := cl.scr) h2
      have key := se_comp (pos := pos) (blk_of h1) k1 k2 (by
        rw [ownOf_ix]
        intro i hi
        have := List.all_eq_true.mp h3 i hi
        simpa using this) (okI hF rng it fr _ h6) ((okEs hF ifs (frB fr scope) _ h7).sif h5) (okE hF e (frB fr scope) _ h8) (nset_of h4)
      rw [ownOf_ix] at key
      exact key
    · cases h
  | .get x i a x' i' a' e f, fr, b, h => by
    simp only [chkE] at h
    split at h
    · simp only [Bool.and_eq_true, beq_iff_eq] at h
      obtain ⟨⟨⟨⟨⟨⟨⟨⟨⟨⟨⟨⟨⟨h1, h2⟩, h3⟩, h4⟩, h5⟩, h6⟩, h7⟩, h8⟩, h9⟩, h10⟩, h11⟩, h12⟩, h13⟩, h14⟩ := h
      subst h1 h2 h3 h4 h5
      have glI : ∀ {y : Str} {p : Pos} {i : Int}, glIs fr y = true → (match nm.gl.lookup y with | some (.int j) => i == j | _ => false) = true → ∀ X : Cx, FrOk g k fr X → PE X (.Name y p) (tC (.int i)) := by
        intro y p i hy hk X hf
        split at hk
        · rename_i j hj
          rw [beq_iff_eq] at hk
          subst hk
          obtain ⟨u, v, k1, k2, k3⟩ := hF.gl _ _ hj
          have hv : v = V.int i := k3 (fun _ => none)
          subst hv
          refine pe_glob ?_ (by rw [hf.x.mg]; exact k1) k2 (gl_of hy).2
          show X.env.scope.names.lookup _ = _
          rw [hf.sc]
          exact (gl_of hy).1
        · cases hk
      exact se_get (glI h6 h8) (glI h7 h9) (fun X => pe_str) (fun X => pe_str) (by simpa using h10) (pl_of h11) (pl_of h12) (okE hF e fr _ h13) (okE hF f fr _ h14)
    · cases h
  | .isx c e, fr, a, h => by
    simp only [chkE] at h
    split at h
    · simp only [Bool.and_eq_true, beq_iff_eq] at h
      obtain ⟨⟨⟨⟨⟨h1, h2⟩, h3⟩, h4⟩, h5⟩, h6⟩ := h
      subst h1 h2
      exact se_isx hF (gl_of h3).1 (gl_of h4).1 (gl_of h4).2 (pl_of h5) (okE hF e fr _ h6)
    · cases h
  | .lm ix e f, fr, a, h => by
    simp only [chkE] at h
    split at h
    · simp only [Bool.and_eq_true] at h
      obtain ⟨⟨⟨⟨⟨h1, h2⟩, h3⟩, h4⟩, h5⟩, h6⟩ := h
      rw [beq_iff_eq] at h1
      exact se_lm h1 (fun env => base_of h2 env) h3 (pl_of h4) (okE hF e fr _ h5) (okE hF f fr _ h6)
    · cases h
theorem okEs (hF : Facts g k cl nm) : ∀ (es : List E) (fr : FrI) (as : List Expr), chkEs nm es fr as = true → SEs g k cl fr as es
  | [], fr, as, h => by
    simp only [chkEs] at h
    cases as with
    | nil => trivial
    | cons a as => cases h
  | e :: es, fr, as, h => by
    simp only [chkEs] at h
    split at h
    · rw [Bool.and_eq_true] at h
      exact ⟨okE hF e fr _ h.1, okEs hF es fr _ h.2⟩
    · cases h
theorem okO (hF : Facts g k cl nm) : ∀ (e : Option E) (fr : FrI) (a : Option Expr), chkO nm e fr a = true → SO g k cl fr a e
  | none, fr, a, h => by
    simp only [chkO] at h
    cases a with
    | none => exact so_none
    | some a => cases h
  | some e, fr, a, h => by
    simp only [chkO] at h
    split at h
    · exact so_some (okE hF e fr _ h)
    · cases h
theorem okI (hF : Facts g k cl nm) (rng : Bool) : ∀ (es : List E) (fr : FrI) (a : Expr), chkI nm rng es fr a = true → SIt g k cl fr rng a es
  | [], fr, a, h => by simp [chkI] at h
  | [e], fr, a, h => by
    simp only [chkI] at h
    cases rng with
    | false =>
      rw [if_neg Bool.false_ne_true] at h
      exact sit_val (okE hF e fr _ h)
    | true =>
      rw [if_pos rfl] at h
      split at h
      · simp only [Bool.and_eq_true, beq_iff_eq] at h
        obtain ⟨⟨⟨h1, h2⟩, h3⟩, h4⟩ := h
        subst h1
        exact sit_rng1 hF (gl_of h2).1 (pl_of h3) (si_cons (pl_of h3 []) (okE hF e fr _ h4) si_nil)
      · cases h
  | [e, f], fr, a, h => by
    simp only [chkI] at h
    rw [Bool.and_eq_true] at h
    obtain ⟨h0, h⟩ := h
    subst h0
    split at h
    · simp only [Bool.and_eq_true, beq_iff_eq] at h
      obtain ⟨⟨⟨⟨⟨h1, h2⟩, h3⟩, h4⟩, h5⟩, h6⟩ := h
      subst h1
      exact sit_rng2 hF (gl_of h2).1 (pl_of h3) (pl_of h4) (si_cons (pl_of h3 _) (okE hF e fr _ h5) (si_cons (pl_of h4 []) (okE hF f fr _ h6) si_nil))
    · cases h
  | [e, f, c], fr, a, h => by
    simp only [chkI] at h
    rw [Bool.and_eq_true] at h
    obtain ⟨h0, h⟩ := h
    subst h0
    split at h
    · simp only [Bool.and_eq_true, beq_iff_eq] at h
      obtain ⟨⟨⟨⟨⟨⟨⟨h1, h2⟩, h3⟩, h4⟩, h5⟩, h6⟩, h7⟩, h8⟩ := h
      subst h1
      exact sit_rng3 hF (gl_of h2).1 (pl_of h3) (pl_of h4) (pl_of h5) (si_cons (pl_of h3 _) (okE hF e fr _ h6) (si_cons (pl_of h4 _) (okE hF f fr _ h7) (si_cons (pl_of h5 []) (okE hF c fr _ h8) si_nil)))
    · cases h
  | _ :: _ :: _ :: _ :: _, fr, a, h => by simp [chkI] at h
end
end
end R

set_option Elab.async false
set_option linter.all false
set_option maxRecDepth 100000
set_option maxHeartbeats 4000000
/-! # R14: a term of the language against the program's text, statements -/
namespace R
open PySem L2 PyProof.Rows PySem.W
/-! what is let out is let out at the slots of the start -/
mutual
def flS : S → Bool
  | .asg .. | .unp .. | .seti .. | .augi .. | .app .. | .ext .. | .xpr .. | .ret .. | .rai .. | .tryA .. | .tryO .. => true
  | .ife _ a b => flSs a && flSs b
  | .par .. | .fr .. | .whl .. => false
def flSs : List S → Bool
  | [] => true
  | [s] => flS s
  | _ :: _ :: _ => false
end
def swV (sc : Scope) (x : Str) (px : Pos) (s : Scope) (cpos : Pos) : Bool :=
  (if sc.kind.isAnnotationScope then ScopeKind.function else sc.kind) == .function && sc.names.lookup x == some .local && px.line == cpos.line && !(s.names.any fun (n, k) => n == x && (k == .local || k == .cell))
theorem swV_of {sc s : Scope} {x : Str} {px cpos : Pos} {el : Expr} {gs : List Comprehension} {n : Nat} {env : PySem.Env} (h : env.scope = sc) : swapsWith (.ListComp el gs s cpos) (some (.Name x px)) n env = pure (swV sc x px s cpos) := by
  subst h
  rfl
def notTuple : Expr → Bool
  | .Tuple .. => false
  | _ => true
theorem ss_none {a : Expr} {es : List Expr} {kk : Nat} {p : Pos} (h : notTuple a = true) (env : PySem.Env) : swappedStores [.Tuple es kk p] a env = pure none := by
  cases a <;> first | rfl | cases h
theorem asg_sub {o i : Expr} {p : Pos} (h : plainIx i = true) (env : PySem.Env) (v : Value) : assign (.Subscript o i p) env v = (do
      let ov ← holding [v] (eval o env)
      let iv ← holding [v, ov] (eval i env)
      standAt p
      holding [v, ov, iv] (setItem ov iv v)
      release [v, ov, iv] []) := by
  cases i <;> first | rfl | cases h
theorem aug_sub {i : Expr} (h : plainIx i = true) (ov iv new : Value) : augStore i ov iv new = (do holding [new, ov, iv] (setItem ov iv new); release [new, ov, iv] []; pure .next) := by
  cases i <;> first | rfl | cases h
mutual
def chkS (nm : Nm) : S → FrI → Stmt → Bool
  | .asg i _ e, fr, a => match a with
    | .Assign [.Name x px] b _ => fr.N[i]? == some x && stoIs fr x && chkE nm e fr b && (notComp b || (match b with | .ListComp _ _ s cp => (!(swV fr.sc x px s cp)) || fr.sc.names.lookup x == some .local | _ => false))
    | _ => false
  | .unp is e, fr, a => match a with
    | .Assign [.Tuple es _ _] b _ => namesIs fr es is && notComp b && notTuple b && chkE nm e fr b
    | _ => false
  | .par .., _, _ => false
  | .seti eo ei e, fr, a => match a with
    | .Assign [.Subscript o i _] b _ => notComp b && plainIx i && chkE nm eo fr o && chkE nm ei fr i && chkE nm e fr b
    | _ => false
  | .augi op eo ei e, fr, a => match a with
    | .AugAssign (.Subscript o i _) op' b _ => op == op' && plainIx i && chkE nm eo fr o && chkE nm ei fr i && chkE nm e fr b
    | _ => false
  | .app eo e, fr, a => match a with
    | .Expr (.Call (.Attribute o n ap) [b] [] cp) _ => n == ("append" : Str) && notCall0 o && ap.endLine == cp.line && plain b && chkE nm eo fr o && chkE nm e fr b
    | _ => false
  | .ext eo e, fr, a => match a with
    | .Expr (.Call (.Attribute o n ap) [b] [] cp) _ => n == ("extend" : Str) && notCall0 o && ap.endLine == cp.line && plain b && chkE nm eo fr o && chkE nm e fr b
    | _ => false
  | .xpr e, fr, a => match a with
    | .Expr b _ => notComp b && chkE nm e fr b
    | _ => false
  | .ret e, fr, a => match a with
    | .Return (some b) _ => chkE nm e fr b
    | _ => false
  | .ife c x y, fr, a => match a with
    | .If t p q _ => chkE nm c fr t && chkSs nm x fr p && chkSs nm y fr q
    | _ => false
  | .fr tup tg rng it body, fr, a => match a with
    | .For t iter b [] _ => tgIs fr tup tg t && notSet iter && chkI nm rng it fr iter && chkSs nm body fr b
    | _ => false
  | .whl c body, fr, a => match a with
    | .While t b [] _ => chkE nm c fr t && chkSs nm body fr b
    | _ => false
  | .rai n, fr, a => match a with
    | .Raise (some (.Call (.Name x _) [.Constant (.str _) _ _] [] _)) none _ => x == n && nm.exs.contains x && glIs fr x
    | _ => false
  | .tryA body c i x, fr, a => match a with
    | .Try b [.ExceptHandler (some (.Name c' _)) (some n) [.Assign [.Name xn _] (.Name n' _) _] _] [] [] _ =>
      c == c' && n == n' && !fr.blk && nm.exs.contains c' && glIs fr c' && fr.N[i]? == some n && fr.sc.names.lookup n == some .local && fr.N[x]? == some xn && fr.sc.names.lookup xn == some .local && !(n == ("__debug__" : Str)) && !(n == ("__classdict__" : Str)) && flSs body && chkSs nm body fr b
    | _ => false
  | .tryO body c x d, fr, a => match a with
    | .Try b [.ExceptHandler (some (.Name c' _)) none [.Assign [.Name xn _] v _] _] [] [] _ =>
      c == c' && !fr.blk && nm.exs.contains c' && glIs fr c' && fr.N[x]? == some xn && stoIs fr xn && cstOk v d && notComp v && flSs body && chkSs nm body fr b
    | _ => false
def chkSs (nm : Nm) : List S → FrI → List Stmt → Bool
  | [], _, as => as.isEmpty
  | s :: ss, fr, as => match as with
    | a :: as => chkS nm s fr a && chkSs nm ss fr as
    | [] => false
end
section
variable {g : Gx} {k : Nat} {cl : Cl} {nm : Nm}
theorem SS.any {b : Bool} {fr : FrI} {a : Stmt} {s : S} (h : SS b g k cl fr a s) : SS false g k cl fr a s := by
  cases b with
  | false => exact h
  | true => exact h.weak
theorem SSs.any {b : Bool} {fr : FrI} {a : List Stmt} {s : List S} (h : SSs b g k cl fr a s) : SSs false g k cl fr a s := by
  cases b with
  | false => exact h
  | true => exact fun X hf hp W tk ρ μ w σ D hm hρ hq => h X hf hp W tk ρ μ w σ D hm hρ hq.weak
theorem SSs.to {b b' : Bool} {fr : FrI} {a : List Stmt} {s : List S} (h : SSs b g k cl fr a s) (e : b' = true → b = true) : SSs b' g k cl fr a s := by
  cases b' with
  | false => exact h.any
  | true => rw [e rfl] at h; exact h
theorem chk_cons {nm : Nm} {s : S} {ss : List S} {fr : FrI} {a : Stmt} {as : List Stmt} : chkSs nm (s :: ss) fr (a :: as) = (chkS nm s fr a && chkSs nm ss fr as) := by simp only [chkSs]
mutual
theorem okS (hF : Facts g k cl nm) : ∀ (s : S) (fr : FrI) (a : Stmt), chkS nm s fr a = true → SS (flS s) g k cl fr a s
  | .asg i al e, fr, a, h => by
    simp only [chkS] at h
    split at h
    · rename_i x px b pos
      simp only [Bool.and_eq_true, beq_iff_eq, Bool.or_eq_true] at h
      obtain ⟨⟨⟨h1, h2⟩, h3⟩, h4⟩ := h
      have he := okE (cl := cl) hF e fr b h3
      rcases h4 with h4 | h4
      · exact ss_asg h1 (sto_of h2) (fun env _ => sw_of h4 env) he
      · split at h4
        · rename_i el gs s cp
          cases hv : swV fr.sc x px s cp with
          | false => exact ss_asg h1 (sto_of h2) (fun env he => by rw [swV_of he, hv]) he
          | true =>
            rw [hv] at h4
            simp only [Bool.not_true, Bool.false_or, beq_iff_eq] at h4
            cases e <;> simp only [chkE] at h3 <;> try (cases h3; done)
            next e tup tg rng it ifs own =>
              split at h3
              · rename_i elt t iter cs asy scope pos' heq
                cases heq
                simp only [Bool.and_eq_true, decide_eq_true_eq] at h3
                obtain ⟨⟨⟨⟨⟨⟨⟨⟨k0, k1⟩, k2⟩, k3⟩, k4⟩, k5⟩, k6⟩, k7⟩, k8⟩ := h3
                rw [beq_iff_eq] at k0
                subst k0
                obtain ⟨G, q1, q2⟩ := tg_of (g := g) (k := k) (scr := cl.scr) k2
                have key := ss_asgc (al := al) (pos := pos) (px := px) (cpos := cp) (blk_of k1) q1 q2 (by
                  rw [ownOf_ix]
                  intro i hi
                  have := List.all_eq_true.mp k3 i hi
                  simpa using this) (okI hF rng it fr _ k6) ((okEs hF ifs (frB fr s) _ k7).sif k5) (okE hF e (frB fr s) _ k8) (nset_of k4) h1 h4 (fun env he => by rw [swV_of he, hv])
                rw [ownOf_ix] at key
                exact key
              · cases h3
        · cases h4
    · cases h
  | .unp is e, fr, a, h => by
    simp only [chkS] at h
    split at h
    · simp only [Bool.and_eq_true] at h
      obtain ⟨⟨⟨h1, h2⟩, h3⟩, h4⟩ := h
      exact ss_unp (fun X hf => names_pg hf h1) (fun env => by unfold swapsWithSole; exact sw_of h2 env) (fun env => ss_none h3 env) (okE hF e fr _ h4)
    · cases h
  | .par .., fr, a, h => by simp [chkS] at h
  | .seti eo ei e, fr, a, h => by
    simp only [chkS] at h
    split at h
    · simp only [Bool.and_eq_true] at h
      obtain ⟨⟨⟨⟨h1, h2⟩, h3⟩, h4⟩, h5⟩ := h
      exact ss_seti (fun env => by unfold swapsWithSole; exact sw_of h1 env) (fun env v => asg_sub h2 env v) (okE hF eo fr _ h3) (okE hF ei fr _ h4) (okE hF e fr _ h5)
    · cases h
  | .augi op eo ei e, fr, a, h => by
    simp only [chkS] at h
    split at h
    · simp only [Bool.and_eq_true, beq_iff_eq] at h
      obtain ⟨⟨⟨⟨h1, h2⟩, h3⟩, h4⟩, h5⟩ := h
      subst h1
      exact ss_augi (fun ov iv new => aug_sub h2 ov iv new) (okE hF eo fr _ h3) (okE hF ei fr _ h4) (okE hF e fr _ h5)
    · cases h
  | .app eo e, fr, a, h => by
    simp only [chkS] at h
    split at h
    · simp only [Bool.and_eq_true] at h
      obtain ⟨⟨⟨⟨⟨h1, h2⟩, h3⟩, h4⟩, h5⟩, h6⟩ := h
      rw [beq_iff_eq] at h1
      subst h1
      exact ss_app (fun env => rfl) (fun env => base_of h2 env) h3 (pl_of h4) (okE hF eo fr _ h5) (okE hF e fr _ h6)
    · cases h
  | .ext eo e, fr, a, h => by
    simp only [chkS] at h
    split at h
    · simp only [Bool.and_eq_true] at h
      obtain ⟨⟨⟨⟨⟨h1, h2⟩, h3⟩, h4⟩, h5⟩, h6⟩ := h
      rw [beq_iff_eq] at h1
      subst h1
      exact ss_ext (fun env => rfl) (fun env => base_of h2 env) h3 (pl_of h4) (okE hF eo fr _ h5) (okE hF e fr _ h6)
    · cases h
  | .xpr e, fr, a, h => by
    simp only [chkS] at h
    split at h
    · simp only [Bool.and_eq_true] at h
      exact ss_xpr (fun env => sw_of h.1 env) (okE hF e fr _ h.2)
    · cases h
  | .ret e, fr, a, h => by
    simp only [chkS] at h
    split at h
    · exact ss_ret (okE hF e fr _ h)
    · cases h
  | .ife c x y, fr, a, h => by
    simp only [chkS] at h
    split at h
    · simp only [Bool.and_eq_true] at h
      obtain ⟨⟨h1, h2⟩, h3⟩ := h
      have hx := okSs hF x fr _ h2
      have hy := okSs hF y fr _ h3
      simp only [flS]
      exact ss_ife (okE hF c fr _ h1) (hx.to fun e => by rw [Bool.and_eq_true] at e; exact e.1) (hy.to fun e => by rw [Bool.and_eq_true] at e; exact e.2)
    · cases h
  | .fr tup tg rng it body, fr, a, h => by
    simp only [chkS] at h
    split at h
    · simp only [Bool.and_eq_true] at h
      obtain ⟨⟨⟨h1, h2⟩, h3⟩, h4⟩ := h
      obtain ⟨G, q1, q2⟩ := tg_of (g := g) (k := k) (scr := cl.scr) h1
      exact ss_fr q1 q2 (okI hF rng it fr _ h3) (okSs hF body fr _ h4).any (nset_of h2)
    · cases h
  | .whl c body, fr, a, h => by
    simp only [chkS] at h
    split at h
    · simp only [Bool.and_eq_true] at h
      exact ss_whl (okE hF c fr _ h.1) (okSs hF body fr _ h.2).any
    · cases h
  | .rai n, fr, a, h => by
    simp only [chkS] at h
    split at h
    · simp only [Bool.and_eq_true, beq_iff_eq] at h
      obtain ⟨⟨h1, h2⟩, h3⟩ := h
      subst h1
      exact ss_rai hF (by simpa using h2) (gl_of h3).1 (gl_of h3).2
    · cases h
  | .tryA body c i x, fr, a, h => by
    simp only [chkS] at h
    split at h
    · simp only [Bool.and_eq_true, beq_iff_eq, Bool.not_eq_true'] at h
      obtain ⟨⟨⟨⟨⟨⟨⟨⟨⟨⟨⟨⟨h1, h2⟩, h3⟩, h4⟩, h5⟩, h6⟩, h7⟩, h8⟩, h9⟩, h10⟩, h11⟩, h12⟩, h13⟩ := h
      subst h1 h2
      have hb := okSs hF body fr _ h13
      rw [h12] at hb
      exact ss_tryA hF h3 (by simpa using h4) (gl_of h5).1 (gl_of h5).2 h6 h7 h8 h9 h10 h11 hb
    · cases h
  | .tryO body c x d, fr, a, h => by
    simp only [chkS] at h
    split at h
    · simp only [Bool.and_eq_true, beq_iff_eq, Bool.not_eq_true'] at h
      obtain ⟨⟨⟨⟨⟨⟨⟨⟨⟨h1, h2⟩, h3⟩, h4⟩, h5⟩, h6⟩, h7⟩, h8⟩, h9⟩, h10⟩ := h
      subst h1
      have hb := okSs hF body fr _ h10
      rw [h9] at hb
      exact ss_tryO hF h2 (by simpa using h3) (gl_of h4).1 (gl_of h4).2 h5 (sto_of h6) (cst_of (g := g) h7).1 (fun env => sw_of h8 env) hb
    · cases h
theorem okSs (hF : Facts g k cl nm) : ∀ (ss : List S) (fr : FrI) (as : List Stmt), chkSs nm ss fr as = true → SSs (flSs ss) g k cl fr as ss
  | [], fr, as, h => by
    simp only [chkSs] at h
    cases as with
    | nil => exact sss_nil
    | cons a as => cases h
  | [s], fr, as, h => by
    simp only [chkSs] at h
    split at h
    · rename_i a as
      rw [Bool.and_eq_true] at h
      cases as with
      | nil =>
        simp only [flSs]
        exact sss_one (okS hF s fr _ h.1)
      | cons b bs => exact absurd h.2 (by simp [chkSs])
    · cases h
  | s :: s' :: ss, fr, [], h => by simp [chkSs] at h
  | s :: s' :: ss, fr, a :: as, h => by
    rw [chk_cons, Bool.and_eq_true] at h
    simp only [flSs]
    exact sss_cons (okS hF s fr _ h.1).any (okSs hF (s' :: ss) fr _ h.2).any
end
end
end R

set_option Elab.async false
set_option linter.all false
set_option maxRecDepth 100000
set_option maxHeartbeats 4000000
/-! # R15: a table of defs -/
namespace R
open PySem L2 PyProof.Rows PySem.W
/-- a def of the top: its name, its text, the names of its slots, its parameters, its term -/
structure DefI where
  x : Str
  st : Stmt
  N : List Str
  ps : List Str
  fn : Fn
def scIs (N ps : List Str) (sc : Scope) : Bool :=
  sc.kind == .function && !sc.isCoroutine && !sc.isGenerator && decide N.Nodup && N.take ps.length == ps && ps.all (fun x => sc.names.lookup x == some .local || sc.names.lookup x == some .cell) && sc.names.all (fun y => !(y.2 == .free))
theorem sc_of {N ps : List Str} {sc : Scope} (h : scIs N ps sc = true) : FnScope N ps sc := by
  unfold scIs at h
  simp only [Bool.and_eq_true, beq_iff_eq, Bool.not_eq_true', decide_eq_true_eq, List.all_eq_true, Bool.or_eq_true] at h
  obtain ⟨⟨⟨⟨⟨⟨h1, h2⟩, h3⟩, h4⟩, h5⟩, h6⟩, h7⟩ := h
  exact ⟨h1, h2, h3, h4, h5, h6, fun y hy e => by have := h7 y hy; rw [e] at this; exact absurd this (by decide)⟩
def frD (d : DefI) : FrI := ⟨d.N, defScope d.st, false, fun _ => true⟩
def defIs (nm : Nm) (d : DefI) : Bool := scIs d.N d.ps (defScope d.st) && chkSs nm d.fn.body (frD d) (defBody d.st) && d.fn.ps == d.ps.length && d.fn.n == d.N.length
/-- what the top has written of a def -/
def DefAt (K : PySem.W.Frag) (mg : Str → Option Value) (d : DefI) : Prop := ∃ (fa : Addr) (fd : FuncData), Fun K d.x d.x d.st fa fd ∧ mg d.x = some (.ref fa) ∧ Binds K fd d.ps []
/-! ### a call's end: the def's own things go -/
section
variable {g : Gx} {scr : List Int}
theorem pop_ok {w w' : Wd} {μ μ1 : Mu} (hm : OkM g μ w) (gr : Grow w w') (m1 : OkM g μ1 w') : Grow w ⟨w.ι, w'.Hb, w'.H, w'.pr⟩ ∧ OkM g (μ1.take μ.length) ⟨w.ι, w'.Hb, w'.H, w'.pr⟩ := by
  have hl : w.ι.length ≤ w'.ι.length := gr.io.length_le
  refine ⟨⟨gr.hb, List.prefix_refl _, gr.keep, fun a h => .inl h, gr.mon, gr.pr⟩, m1.sub, ?_, hm.nd, fun k m e => ?_, fun a ha => ?_⟩
  · show w.ι.length = _
    rw [List.length_take, hm.len, ← m1.len]
    have := hm.len
    omega
  · have hk : k < μ.length := by
      have := (List.getElem?_eq_some_iff.mp e).1
      rw [List.length_take] at this
      omega
    rw [List.getElem?_take_of_lt hk] at e
    obtain ⟨a, ea, z⟩ := m1.at_ k m e
    have hk' : k < w.ι.length := by rw [hm.len]; exact hk
    have e2 := pre_get gr.io (List.getElem?_eq_getElem hk')
    rw [ea] at e2
    cases e2
    refine ⟨_, List.getElem?_eq_getElem hk', ?_⟩
    cases m <;> exact z
  · obtain ⟨z1, z2, z3⟩ := m1.pr a ha
    exact ⟨z1, fun h => z2 (gr.io.subset h), z3⟩
theorem pop_post {w : Wd} {μ : Mu} (hm : OkM g μ w) {Ek : XK} {Q : VK} {r : Rv} {μ1 : Mu} (hp : Post g scr w Ek Q (popR r μ1 μ.length)) : ∀ w' v, Grow w w' → OkM g μ1 w' → RRep g scr w' r v → Fresh w r v → Q v w'.H := by
  intro w' v gr m1 rr f
  obtain ⟨g2, m2⟩ := pop_ok hm gr m1
  cases r with
  | p d => exact hp ⟨w.ι, w'.Hb, w'.H, w'.pr⟩ v g2 m2 rr trivial
  | scr => exact hp ⟨w.ι, w'.Hb, w'.H, w'.pr⟩ v g2 m2 rr trivial
  | n ds =>
    obtain ⟨p, vs, rfl, h1, h2, h3, h5, h4⟩ := rr
    exact hp ⟨w.ι, w'.Hb, w'.H, w'.pr⟩ _ g2 m2 ⟨p, vs, rfl, h1, h2, fun h => h3 (gr.io.subset h), h5, h4⟩ f
  | o j =>
    obtain ⟨a, ea, rfl⟩ := rr
    simp only [popR] at hp
    split at hp
    · rename_i hj
      refine hp ⟨w.ι, w'.Hb, w'.H, w'.pr⟩ _ g2 m2 ⟨a, ?_, rfl⟩ trivial
      have hj' : j < w.ι.length := by rw [hm.len]; exact hj
      have e2 := pre_get gr.io (List.getElem?_eq_getElem hj')
      rw [ea] at e2
      cases e2
      exact List.getElem?_eq_getElem hj'
    · rename_i hj
      have hni : a ∉ w.ι := fun h => by
        obtain ⟨i, hi, e⟩ := List.getElem_of_mem h
        have e2 := pre_get gr.io (List.getElem?_eq_getElem hi)
        rw [e] at e2
        obtain ⟨q1, q2⟩ := List.getElem?_eq_some_iff.mp e2
        obtain ⟨q3, q4⟩ := List.getElem?_eq_some_iff.mp ea
        have := (List.getElem_inj m1.nd).mp (q2.trans q4.symm)
        rw [hm.len] at hi
        omega
      have hfr : w.H a = none := (gr.new a (List.mem_of_getElem? ea)).elim (fun h => absurd h hni) id
      split at hp
      · rename_i xs ex
        obtain ⟨z1, vs, z2, z3⟩ := m1.obj ex ea
        exact hp ⟨w.ι, w'.Hb, w'.H, w'.pr⟩ _ g2 m2 ⟨a, vs, rfl, z2, z1, hni, fun h => (m1.pr a h).2.1 (List.mem_of_getElem? ea), z3⟩ fun p e => by cases e; exact hfr
      · rename_i xs ex
        obtain ⟨vs, z2, z3⟩ := m1.obj ex ea
        exact hp ⟨w.ι, w'.Hb, w'.H, w'.pr⟩ _ g2 m2 ⟨a, vs, rfl, z2, z3⟩ trivial
      · exact hp.elim
theorem start_env {w : Wd} : ∀ {rs : List Rv} {vs : List V} {n m : Nat}, RReps g scr w rs vs → n = m → EnvOk g scr w (rs.map some ++ List.replicate n none) (vs.map some ++ List.replicate m none)
  | [], vs, n, m, h, e => by
    have h' : vs = [] := h
    subst h' e
    refine ⟨by simp, fun i r q => ?_⟩
    simp only [List.map_nil, List.nil_append] at q
    rw [List.getElem?_replicate] at q
    split at q <;> cases q
  | r :: rs, _, n, m, h, e => by
    obtain ⟨v, us, rfl, hn, h1, h2⟩ := h
    have ih := start_env h2 e
    refine ⟨by simpa using ih.len, fun i r' q => ?_⟩
    cases i with
    | zero =>
      cases q
      exact ⟨hn, v, rfl, h1⟩
    | succ i => exact ih.get i r' (by simpa using q)
end
/-! ### the table -/
section
variable {P : Program} {w : World} {K : PySem.W.Frag} {mg : Str → Option Value} {base : Heap}
abbrev gOf (P : Program) (w : World) (K : PySem.W.Frag) (mg : Str → Option Value) (base : Heap) : Gx := ⟨P, w, K, mg, base⟩
theorem fr_cx {d : DefI} {f : Addr} {cd : Value} {A : Around} {outer : List PySem.Env} {s : Shared} {H : Hp} {E : XK} {k : Nat} (S : FnScope d.N d.ps (defScope d.st)) (hr : Room k (A.deeper (envOfC d.x (defScope d.st) s.heap.objs.size f cd))) :
    FrOk (gOf P w K mg base) k (frD d) (cxOf (L2.CX P w) P w K mg base d.N d.x (defScope d.st) f cd A outer s H E) where
  x := ⟨rfl, rfl, rfl, rfl, rfl, rfl, by
    have := hr.un
    show (A.deeper _).units + 100 < cLine
    omega⟩
  hN := rfl
  nd := S.nd
  sc := rfl
  fn := rfl
  room := hr
  stk := fun _ => ⟨rfl, rfl⟩
/-- what stands fast of the top, whatever the calls do -/
structure TopAt (g : Gx) (raised asked isas : List Str) (nm : Nm) : Prop where
  gl : ∀ x d, nm.gl.lookup x = some d → ∃ u v, g.mg x = some u ∧ RelV v u ∧ ∀ H, Rep g H d v
  bn : ∀ x, x ∈ bnames → g.mg x = none
  exs : ∀ x, x ∈ nm.exs → ∃ C, g.mg x = some (.ref C) ∧ PySem.W.keepIn g.K (.ref C) = true ∧ PySem.W.excIn g.K C bmV newV = true ∧ PySem.W.subIn g.K (.ref C) (.type "BaseException") = some true ∧ PySem.W.typeIn g.K (.ref C) = some (.type "type")
  sub : ∀ n c b, subN raised asked n c = some b → ∀ C Cc, g.mg n = some (.ref C) → g.mg c = some (.ref Cc) → PySem.W.exmOne g.K (.ref C) (.ref Cc) = some b
  isx : ∀ n c b, subN raised isas n c = some b → ∀ C, g.mg n = some (.ref C) → L2.ExcC g.K C ∧ ∃ cv, PySem.W.kitOne g.K (.ref C) cv = some b ∧ ((∃ Cc, cv = .ref Cc ∧ g.mg c = some cv) ∨ (cv = .type "ValueError" ∧ c = ("ValueError" : Str) ∧ g.mg c = none))
theorem clScr (tbl : List Fn) (raised asked isas : List Str) (scr : List Int) (d : Nat) : (mkCl tbl raised asked isas scr d).scr = scr ∧ (mkCl tbl raised asked isas scr d).sub = subN raised asked ∧ (mkCl tbl raised asked isas scr d).isx = subN raised isas := by
  cases d <;> exact ⟨rfl, rfl, rfl⟩
/-- a def holds its promise, if the calls in it do -/
theorem def_ok {ds : List DefI} {raised asked isas : List Str} {nm : Nm} {scr : List Int} {k : Nat} (ih : Facts (gOf P w K mg base) k (mkCl (ds.map (·.fn)) raised asked isas scr k) nm) {i : Nat} {d : DefI} (q : ds[i]? = some d) (hc : defIs nm d = true) {fa : Addr} {fd : FuncData} (F : Fun K d.x d.x d.st fa fd) :
    FnOk P w K mg base (L2.CX P w) (k + 1) fa fd d.ps (spOf (gOf P w K mg base) (mkCl (ds.map (·.fn)) raised asked isas scr (k + 1)) d.ps.length i) := by
  unfold defIs at hc
  simp only [Bool.and_eq_true, beq_iff_eq] at hc
  obtain ⟨⟨⟨c1, c2⟩, c3⟩, c4⟩ := hc
  have S := sc_of c1
  refine F.okX S (fun vs H Q E h => h.1) fun cdv A outer s H vs Q E hr hsp => ?_
  obtain ⟨hl, rs, μ, w', rfl, hm, hrs, hp⟩ := hsp
  generalize hX : cxOf (L2.CX P w) P w K mg base d.N d.x (defScope d.st) fa cdv A outer s w'.H E = X
  have hf : FrOk (gOf P w K mg base) k (frD d) X := by rw [← hX]; exact fr_cx S hr
  have hpo : PassesOwn (model X.prog X.w) X.A X.env X.xe := by rw [← hX]; exact passes_of rfl
  have tk : Takes X (fun cls d _ H => E cls d H) := by rw [← hX]; exact takes_of rfl rfl rfl rfl
  refine ⟨wSs X (defBody d.st), by rw [← hX]; exact pss_w, ?_⟩
  obtain ⟨e1, e2, e3⟩ := clScr (ds.map (·.fn)) raised asked isas scr k
  have hrl := hrs.length
  have hcl : (mkCl (ds.map (·.fn)) raised asked isas scr (k + 1)).fn i rs μ = evFn (mkCl (ds.map (·.fn)) raised asked isas scr k) d.fn rs μ := by
    show (match (ds.map (·.fn))[i]? with | some f => _ | none => _) = _
    rw [List.getElem?_map, q]
    rfl
  rw [hcl] at hp
  unfold evFn at hp
  rw [if_pos (by rw [c3]; omega)] at hp
  refine (okSs ih d.fn.body (frD d) (defBody d.st) c2).any X hf hpo _ tk (rs.map some ++ List.replicate (d.fn.n - d.fn.ps) none) μ w' (start d.N vs) _ hm ?_ ?_
  · rw [e1]
    exact start_env hrs (by rw [c3, c4]; omega)
  · rw [e1]
    cases he : evSs (mkCl (ds.map (·.fn)) raised asked isas scr k) d.fn.body (rs.map some ++ List.replicate (d.fn.n - d.fn.ps) none) μ with
    | bad => rw [he] at hp; exact hp
    | ok fl μ1 =>
      rw [he] at hp
      cases fl with
      | nx ρ => exact fun w2 σ' gr m _ => pop_post (r := .p .non) hm hp w2 .non gr m rfl trivial
      | rt r => exact fun w2 v gr m rr f => pop_post hm hp w2 v gr m rr f
    | exc n μ1 =>
      rw [he] at hp
      intro w2 C σ' gr m e _
      obtain ⟨g2, m2⟩ := pop_ok hm gr m
      exact hp ⟨w'.ι, w2.Hb, w2.H, w2.pr⟩ C g2 m2 e
theorem tbl_ok {ds : List DefI} {raised asked isas : List Str} {nm : Nm} (T : TopAt (gOf P w K mg base) raised asked isas nm) (hD : ∀ d ∈ ds, DefAt K mg d) (hC : ∀ d ∈ ds, defIs nm d = true) (hn : nm.fns = ds.map fun d => (d.x, d.ps.length)) (scr : List Int) :
    ∀ k : Nat, Facts (gOf P w K mg base) k (mkCl (ds.map (·.fn)) raised asked isas scr k) nm
  | 0 => ⟨T.gl, T.bn, fun i x n h => by
      rw [hn, List.getElem?_map] at h
      cases q : ds[i]? with
      | none => rw [q] at h; cases h
      | some d =>
        rw [q] at h
        cases h
        obtain ⟨fa, fd, F, h1, h2⟩ := hD d (List.mem_of_getElem? q)
        refine ⟨fa, fd, d.ps, h1, F.kp, h2, ⟨fun vs H Q E h => h.1, fun A outer s H args us vs Q E _ _ _ _ h => ?_⟩⟩
        obtain ⟨_, rs, μ, w', _, _, _, hp⟩ := h
        exact (show False from hp).elim, T.exs, T.sub, T.isx⟩
  | k + 1 => ⟨T.gl, T.bn, fun i x n h => by
      rw [hn, List.getElem?_map] at h
      cases q : ds[i]? with
      | none => rw [q] at h; cases h
      | some d =>
        rw [q] at h
        cases h
        obtain ⟨fa, fd, F, h1, h2⟩ := hD d (List.mem_of_getElem? q)
        exact ⟨fa, fd, d.ps, h1, F.kp, h2, def_ok (tbl_ok T hD hC hn scr k) q (hC d (List.mem_of_getElem? q)) F⟩, T.exs, by rw [(clScr _ _ _ _ _ _).2.1]; exact T.sub, by rw [(clScr _ _ _ _ _ _).2.2]; exact T.isx⟩
/-- law's: a list of at most 63 ints is handed in, True comes out -/
def spLaw (K : PySem.W.Frag) : Sp := fun vs H Q _ => ∃ (a : Addr) (ns : List Int), vs = [.ref a] ∧ SqL K H a (ns.map V.int) ∧ ns.length ≤ 63 ∧ ∀ H', Q (.bl true) H'
/-- what is to be shown of the terms alone -/
def LawTrue (tbl : List Fn) (raised asked isas : List Str) (i k : Nat) : Prop := ∀ ns : List Int, ns.length ≤ 63 → (mkCl tbl raised asked isas ns k).fn i [.scr] [] = .ok (.p (.bl true)) []
theorem law_fn {ds : List DefI} {raised asked isas : List Str} {nm : Nm} (T : TopAt (gOf P w K mg base) raised asked isas nm) (hD : ∀ d ∈ ds, DefAt K mg d) (hC : ∀ d ∈ ds, defIs nm d = true) (hn : nm.fns = ds.map fun d => (d.x, d.ps.length)) {i k : Nat} {d : DefI} (q : ds[i]? = some d)
    {fa : Addr} {fd : FuncData} (F : Fun K d.x d.x d.st fa fd) (h1 : d.ps.length = 1) (hT : LawTrue (ds.map (·.fn)) raised asked isas i (k + 1)) : FnOk P w K mg base (L2.CX P w) (k + 1) fa fd d.ps (spLaw K) := by
  have key : ∀ ns, FnOk P w K mg base (L2.CX P w) (k + 1) fa fd d.ps (spOf (gOf P w K mg base) (mkCl (ds.map (·.fn)) raised asked isas ns (k + 1)) d.ps.length i) := fun ns => def_ok (tbl_ok T hD hC hn ns k) q (hC d (List.mem_of_getElem? q)) F
  have get : ∀ {vs : List V} {H : Hp} {Q : VK} {E : XK}, spLaw K vs H Q E → ∃ ns, spOf (gOf P w K mg base) (mkCl (ds.map (·.fn)) raised asked isas ns (k + 1)) d.ps.length i vs H Q E := fun {vs H Q E} h => by
    obtain ⟨a, ns, rfl, hS, hl, hQ⟩ := h
    refine ⟨ns, by rw [h1]; rfl, [.scr], [], ⟨[], H, H, []⟩, rfl, ⟨Ex.refl _, rfl, List.nodup_nil, fun k m e => by simp at e, fun a ha => by simp at ha⟩, ?_, ?_⟩
    · rw [(clScr _ _ _ _ _ _).1]
      exact ⟨_, [], rfl, trivial, ⟨a, rfl, hS⟩, rfl⟩
    · rw [hT ns hl]
      intro w' v _ _ rr _
      have e : v = .bl true := rr
      rw [e]
      exact hQ _
  exact ⟨fun vs H Q E h => by
    obtain ⟨ns, h⟩ := get h
    exact (key ns).len vs H Q E h, fun A outer s H args us vs Q E hr he hb hv h => by
    obtain ⟨ns, h⟩ := get h
    exact (key ns).run A outer s H args us vs Q E hr he hb hv h⟩
end
/-- the goal that the head leaves -/
theorem walk {l : PySem.W.OpenLaw} {q : Program} {loose : List Str} {XP : (Str → Option Value) → Heap → Prop} {YP : World → Heap → Prop} {d : DefRec} {K : Params → PySem.W.Frag} {k : Nat} (hk : k ≤ 200) (hn : l.most = some 63) (hdf : d.params.defaults = [])
    (hY : ∀ (w : World) (h : Heap), YP w h → (K w.params).In h)
    (F : ∀ (w : World) (mg : Str → Option Value) (fa : Addr) (h : Heap), (K w.params).In h → h.Ns mainGlobals mg → mg d.name = some (.ref fa) →
      ∃ fd : FuncData, (∀ (s : Shared) (u : Value), BindsTo s fd ⟨[u], []⟩ [("_law_script", u)]) ∧ ∀ base : Heap, (K w.params).In base → base.Ns mainGlobals mg → FnOk l.prog w (K w.params) mg base (L2.CX l.prog w) k fa fd ["_law_script"] (spLaw (K w.params))) :
    PySem.W.WalkO q loose XP YP l.row.toRowW d [] (fun f vs => PySem.call f vs) := by
  refine L2.walk_of (n := 63) (k := k) (x := "_law_script") (CX := fun w => L2.CX l.prog w) (sp := fun w => spLaw (K w.params)) hn (by decide) hdf ?_ hY F (fun _ _ a ns hl _ hS => ⟨a, ns, rfl, hS, hl, fun _ => rfl⟩) fun _ _ _ _ _ z => ?_
  · have h0 : Room 200 callerA := ⟨rfl, by decide, by decide⟩
    exact h0.mono hk
  · obtain ⟨_, _, _, _, _, _, _, _, _, _, _, _, h⟩ := z
    exact h
/-! ### what the top has written, told of its namespace -/
section
variable {K : PySem.W.Frag} {mg : Str → Option Value} {h : Heap}
theorem at_mk (X : K.In h) (G : h.Ns mainGlobals mg) {d : DefI} {f : Addr} {oc kV doc pm cdv ct : Value} {od an : Option Addr} {osl : Array (Option Value)} (a : PySem.W.nsIn K mainGlobals d.x = some (some (.ref f)))
    (l : K.lookup f = some ⟨oc, od, .func (PySem.W.fnOf d.x d.x (defArgs d.st) (defBody d.st) (defScope d.st) .none kV doc pm an cdv ct), osl⟩) (c : PySem.W.codeIn K cdv d.x = true) (k : PySem.W.keepIn K (.ref f) = true)
    (hb : ∀ (kV doc pm : Value) (an : Option Addr) (cdv ct : Value) (us : List Value), us.length = d.ps.length → bindArgs (PySem.W.fnOf d.x d.x (defArgs d.st) (defBody d.st) (defScope d.st) .none kV doc pm an cdv ct) ⟨us, []⟩ = pure (d.ps.zip us)) : DefAt K mg d := by
  have F := fun_mk (st := d.st) l c k
  exact ⟨f, _, F, PySem.W.mg_of X G a, F.binds hb⟩
end
/-! ### chains of facts -/
theorem all_cons {α : Type} {p : α → Prop} {a : α} {l : List α} (h : p a) (t : ∀ x ∈ l, p x) : ∀ x ∈ a :: l, p x := fun x hx => (List.mem_cons.mp hx).elim (fun e => by rw [e]; exact h) (t x)
theorem all_nil {α : Type} {p : α → Prop} : ∀ x ∈ ([] : List α), p x := fun x hx => nomatch hx
def subV (n c : Str) : Bool := n == c || c == ("RaceError" : Str) || c == ("ValueError" : Str)
theorem subN_of {r a : List Str} {n c : Str} {b : Bool} (h : subN r a n c = some b) : n ∈ r ∧ c ∈ a ∧ subV n c = b := by
  unfold subN at h
  split at h
  · rename_i h1
    rw [Bool.and_eq_true] at h1
    cases h
    exact ⟨by simpa using h1.1, by simpa using h1.2, rfl⟩
  · cases h
section
variable {P : Program} {w : World} {K : PySem.W.Frag} {mg : Str → Option Value} {base : Heap}
def GlAt (mg : Str → Option Value) (p : Str × R.P) : Prop := ∃ u v, mg p.1 = some u ∧ RelV v u ∧ ∀ (g : Gx) (H : Hp), Rep g H p.2 v
theorem gl_int {x : Str} {i : Int} {t : Nat} (h : mg x = some (.int i t)) : GlAt mg (x, .int i) := ⟨_, .int i, h, ⟨t, rfl⟩, fun _ _ => rfl⟩
theorem gl_str {x : Str} {i : Str} {t : Nat} (h : mg x = some (.str i t)) : GlAt mg (x, .str i) := ⟨_, .str i, h, ⟨t, rfl⟩, fun _ _ => rfl⟩
def ErrAt (K : PySem.W.Frag) (mg : Str → Option Value) (x : Str) : Prop := ∃ C, mg x = some (.ref C) ∧ PySem.W.keepIn K (.ref C) = true ∧ PySem.W.excIn K C bmV newV = true ∧ PySem.W.subIn K (.ref C) (.type "BaseException") = some true ∧ PySem.W.typeIn K (.ref C) = some (.type "type")
def ExmAt (K : PySem.W.Frag) (mg : Str → Option Value) (n c : Str) : Prop := ∀ C Cc, mg n = some (.ref C) → mg c = some (.ref Cc) → PySem.W.exmOne K (.ref C) (.ref Cc) = some (subV n c)
def KitAt (K : PySem.W.Frag) (mg : Str → Option Value) (n c : Str) : Prop := ∀ C, mg n = some (.ref C) → L2.ExcC K C ∧ ∃ cv, PySem.W.kitOne K (.ref C) cv = some (subV n c) ∧ ((∃ Cc, cv = .ref Cc ∧ mg c = some cv) ∨ (cv = .type "ValueError" ∧ c = ("ValueError" : Str) ∧ mg c = none))
theorem exm_mk {n c : Str} {C Cc : Addr} {b : Bool} (hn : mg n = some (.ref C)) (hc : mg c = some (.ref Cc)) (h1 : PySem.W.subIn K (.ref Cc) (.type "BaseException") = some true) (h2 : PySem.W.hasDictIn K Cc = true) (h3 : PySem.W.typeIn K (.ref Cc) = some (.type "type")) (h4 : PySem.W.subIn K (.ref C) (.ref Cc) = some b) (hb : subV n c = b) : ExmAt K mg n c := fun C' Cc' k1 k2 => by
  cases hn.symm.trans k1
  cases hc.symm.trans k2
  rw [hb]
  exact PySem.W.exm_ref h1 h2 h3 h4
theorem kit_mk {n c : Str} {C Cc : Addr} {b : Bool} (hn : mg n = some (.ref C)) (hE : L2.ExcC K C) (hc : mg c = some (.ref Cc)) (h4 : PySem.W.kitOne K (.ref C) (.ref Cc) = some b) (hb : subV n c = b) : KitAt K mg n c := fun C' k1 => by
  cases hn.symm.trans k1
  rw [hb]
  exact ⟨hE, _, h4, .inl ⟨Cc, rfl, hc⟩⟩
theorem kit_v {n : Str} {C : Addr} (hn : mg n = some (.ref C)) (hE : L2.ExcC K C) (hc : mg ("ValueError" : Str) = none) (h4 : PySem.W.kitOne K (.ref C) (.type "ValueError") = some true) (hb : subV n "ValueError" = true) : KitAt K mg n "ValueError" := fun C' k1 => by
  cases hn.symm.trans k1
  rw [hb]
  exact ⟨hE, _, h4, .inr ⟨rfl, rfl, hc⟩⟩
theorem top_mk {raised asked isas : List Str} {nm : Nm} (h1 : ∀ p ∈ nm.gl, GlAt mg p) (h2 : ∀ x ∈ bnames, mg x = none) (h3 : ∀ x ∈ nm.exs, ErrAt K mg x) (h4 : ∀ n ∈ raised, ∀ c ∈ asked, ExmAt K mg n c) (h5 : ∀ n ∈ raised, ∀ c ∈ isas, KitAt K mg n c) : TopAt (gOf P w K mg base) raised asked isas nm where
  gl := fun x d e => by
    obtain ⟨u, v, k1, k2, k3⟩ := h1 (x, d) (PySem.mem_of_lookup e)
    exact ⟨u, v, k1, k2, k3 _⟩
  bn := h2
  exs := h3
  sub := fun n c b e C Cc k1 k2 => by
    obtain ⟨e1, e2, rfl⟩ := subN_of e
    exact h4 n e1 c e2 C Cc k1 k2
  isx := fun n c b e C k1 => by
    obtain ⟨e1, e2, rfl⟩ := subN_of e
    exact h5 n e1 c e2 C k1
end
end R

set_option Elab.async false
set_option linter.all false
set_option maxRecDepth 100000
/-! # R16: about what is computed: calls, loops, comprehensions -/
namespace R
open PySem
theorem cl_fn {tbl : List Fn} {raised asked isas : List Str} {scr : List Int} {d i : Nat} {args : List Rv} {μ : Mu} {f : Fn} (h : tbl[i]? = some f) : (mkCl tbl raised asked isas scr (d + 1)).fn i args μ = evFn (mkCl tbl raised asked isas scr d) f args μ := by
  show (match tbl[i]? with | some f => _ | none => _) = _
  rw [h]
theorem cl_scr {tbl : List Fn} {raised asked isas : List Str} {scr : List Int} {d : Nat} : (mkCl tbl raised asked isas scr d).scr = scr := by cases d <;> rfl
theorem cl_isx {tbl : List Fn} {raised asked isas : List Str} {scr : List Int} {d : Nat} : (mkCl tbl raised asked isas scr d).isx = subN raised isas := by cases d <;> rfl
theorem cl_sub {tbl : List Fn} {raised asked isas : List Str} {scr : List Int} {d : Nat} : (mkCl tbl raised asked isas scr d).sub = subN raised asked := by cases d <;> rfl
/-- a for loop that ends, by what holds behind i turns -/
theorem forL_run {body : P → Env → Mu → Out Fl} {ds : List P} (Iv : Nat → Env → Mu → Prop) {ρ : Env} {μ : Mu} (h0 : Iv 0 ρ μ) (hs : ∀ i d ρ μ, ds[i]? = some d → Iv i ρ μ → ∃ ρ' μ', body d ρ μ = .ok (.nx ρ') μ' ∧ Iv (i + 1) ρ' μ') :
    ∃ ρ' μ', forL body ds ρ μ = .ok (.nx ρ') μ' ∧ Iv ds.length ρ' μ' := by
  induction ds generalizing Iv ρ μ with
  | nil => exact ⟨ρ, μ, rfl, h0⟩
  | cons d ds ih =>
    obtain ⟨ρ1, μ1, e1, h1⟩ := hs 0 d ρ μ rfl h0
    obtain ⟨ρ2, μ2, e2, h2⟩ := ih (fun i => Iv (i + 1)) h1 fun i d' ρ' μ' e h => hs (i + 1) d' ρ' μ' (by simpa using e) h
    refine ⟨ρ2, μ2, ?_, by simpa using h2⟩
    simp only [forL, e1, Out.bind_ok, thenF, e2]
theorem forL_go {body : P → Env → Mu → Out Fl} {ds : List P} {n : Nat} (Iv : Nat → Env → Mu → Prop) (hn : ds.length = n) {ρ : Env} {μ : Mu} (h0 : Iv 0 ρ μ) (hs : ∀ i d ρ μ, ds[i]? = some d → Iv i ρ μ → ∃ ρ' μ', body d ρ μ = .ok (.nx ρ') μ' ∧ Iv (i + 1) ρ' μ') :
    ∃ ρ' μ', forL body ds ρ μ = .ok (.nx ρ') μ' ∧ Iv n ρ' μ' := by
  subst hn
  exact forL_run Iv h0 hs
/-- a comprehension without tests -/
theorem compL_map {body : P → Mu → Out (Option P)} {f : P → P} {ds : List P} {μ : Mu} (h : ∀ d ∈ ds, body d μ = .ok (some (f d)) μ) : compL body ds μ = .ok (ds.map f) μ := by
  induction ds with
  | nil => rfl
  | cons d ds ih =>
    have ih := ih fun x hx => h x (List.mem_cons_of_mem _ hx)
    simp only [compL, h d List.mem_cons_self, Out.bind_ok, ih, List.map_cons]
theorem compL_int {body : P → Mu → Out (Option P)} {f : Int → P} {xs : List Int} {μ : Mu} (h : ∀ x ∈ xs, body (.int x) μ = .ok (some (f x)) μ) : compL body (xs.map .int) μ = .ok (xs.map f) μ := by
  induction xs with
  | nil => rfl
  | cons d ds ih =>
    have ih := ih fun x hx => h x (List.mem_cons_of_mem _ hx)
    simp only [List.map_cons, compL, h d List.mem_cons_self, Out.bind_ok, ih]
/-- a comprehension with tests -/
theorem compL_filter {body : P → Mu → Out (Option P)} {f : P → Option P} {ds : List P} {μ : Mu} (h : ∀ d ∈ ds, body d μ = .ok (f d) μ) : compL body ds μ = .ok (ds.filterMap f) μ := by
  induction ds with
  | nil => rfl
  | cons d ds ih =>
    have ih := ih fun x hx => h x (List.mem_cons_of_mem _ hx)
    simp only [compL, h d List.mem_cons_self, Out.bind_ok, ih, List.filterMap_cons]
    cases f d <;> rfl
/-- a while loop that ends -/
theorem whlL_run {test : Env → Mu → Out Rv} {body : Env → Mu → Out Fl} (Iv : Nat → Env → Mu → Prop) (E : Env → Mu → Prop)
    (hs : ∀ m ρ μ, Iv m ρ μ → (test ρ μ = .ok (.p (.bl false)) μ ∧ E ρ μ) ∨ (0 < m ∧ test ρ μ = .ok (.p (.bl true)) μ ∧ ∃ ρ' μ', body ρ μ = .ok (.nx ρ') μ' ∧ Iv (m - 1) ρ' μ')) :
    ∀ (m n : Nat) (ρ : Env) (μ : Mu), m < n → Iv m ρ μ → ∃ ρ' μ', whlL test body n ρ μ = .ok (.nx ρ') μ' ∧ E ρ' μ'
  | m, 0, _, _, h, _ => absurd h (Nat.not_lt_zero _)
  | m, n + 1, ρ, μ, h, hi => by
    rcases hs m ρ μ hi with ⟨e, hE⟩ | ⟨hm, e, ρ1, μ1, e1, h1⟩
    · exact ⟨ρ, μ, by simp only [whlL, e, Out.bind_ok, blR, Bool.false_eq_true, if_false], hE⟩
    · obtain ⟨ρ2, μ2, e2, h2⟩ := whlL_run Iv E hs (m - 1) n ρ1 μ1 (by omega) h1
      exact ⟨ρ2, μ2, by simp only [whlL, e, Out.bind_ok, blR, if_true, e1, thenF, e2], h2⟩
theorem fuel_lt {m : Nat} (h : m < 2 ^ 64) : m < fuel := Nat.lt_of_lt_of_le h (Nat.pow_le_pow_right (by decide) (by decide))
/-! ### reading rules -/
theorem v_onP_p {α : Type} {d : P} {μ : Mu} {f : P → Out α} : onP (.p d) μ f = f d := rfl
theorem v_onP_n {α : Type} {ds : List P} {μ : Mu} {f : P → Out α} : onP (.n ds) μ f = f (.lst ds) := rfl
theorem v_onP_o {α : Type} {k : Nat} {xs : List P} {μ : Mu} {f : P → Out α} (h : μ[k]? = some (.lst xs)) : onP (.o k) μ f = f (.lst xs) := by simp only [onP, asP, h]
theorem v_onP_f {α : Type} {k : Nat} {xs : List P} {μ : Mu} {f : P → Out α} (h : μ[k]? = some (.froz xs)) : onP (.o k) μ f = f (.lst xs) := by simp only [onP, asP, h]
theorem v_int {α : Type} {i : Int} {f : Int → Out α} : intR (.p (.int i)) f = f i := rfl
theorem v_bl {α : Type} {b : Bool} {f : Bool → Out α} : blR (.p (.bl b)) f = f b := rfl
theorem v_str {α : Type} {b : Str} {f : Str → Out α} : strR (.p (.str b)) f = f b := rfl
theorem v_data {α : Type} {b : P} {f : P → Out α} : dataR (.p b) f = f b := rfl
theorem v_seq {α : Type} {b : List P} {f : List P → Out α} : seqR (.lst b) f = f b := rfl
theorem v_obj {α : Type} {k : Nat} {xs : List P} {μ : Mu} {f : Nat → List P → Out α} (h : μ[k]? = some (.lst xs)) : objR (.o k) μ f = f k xs := by simp only [objR, h]
theorem v_ix {α : Type} {xs : List P} {i : Int} {j : Nat} {f : Nat → Out α} (h : L2.ixN xs.length i = some j) : ixR xs i f = f j := by simp only [ixR, h]
theorem v_of {α : Type} {a : α} {μ : Mu} : Out.of (some a) μ = .ok a μ := rfl
theorem v_retT {scr : List Int} {r : Rv} {μ : Mu} : retT scr false r μ = .ok r μ := rfl
theorem v_retT_b {scr : List Int} {b : Bool} {μ : Mu} : retT scr true (.p (.bl b)) μ = .ok (.p (.bl b)) μ := rfl
theorem v_retT_s {scr : List Int} {μ : Mu} : retT scr true .scr μ = .ok (.p (.bl (!scr.isEmpty))) μ := rfl
theorem v_retT_l {scr : List Int} {xs : List P} {μ : Mu} : retT scr true (.p (.lst xs)) μ = .ok (.p (.bl (!xs.isEmpty))) μ := rfl
theorem v_retB {r : Rv} {μ : Mu} : retB false r μ = .ok r μ := rfl
theorem v_retB_b {b : Bool} {μ : Mu} : retB true (.p (.bl b)) μ = .ok (.p (.bl b)) μ := rfl
theorem v_add {i j : Int} : binP .Add (.int i) (.int j) = some (.p (.int (i + j))) := rfl
theorem v_sub {i j : Int} : binP .Sub (.int i) (.int j) = some (.p (.int (i - j))) := rfl
theorem v_mul {i j : Int} (h : i.natAbs.log2 + j.natAbs.log2 < 1000000) : binP .Mult (.int i) (.int j) = some (.p (.int (i * j))) := by simp only [binP, if_pos h]
theorem v_mod {i j : Int} (h : 0 < j) : binP .Mod (.int i) (.int j) = some (.p (.int (i % j))) := by simp only [binP, if_pos h]
theorem v_fdiv {i j : Int} (h : 0 < j) (h2 : j.natAbs.log2 < 9000) : binP .FloorDiv (.int i) (.int j) = some (.p (.int (i / j))) := by simp only [binP, if_pos (And.intro h h2)]
theorem v_pow {i : Int} {n : Nat} (h : i.natAbs < 2 ^ 64) (h2 : n ≤ 1000000) : binP .Pow (.int i) (.int (n : Int)) = some (.p (.int (i ^ n))) := by
  have h3 : 0 ≤ (n : Int) ∧ (n : Int).natAbs ≤ 1000000 ∧ i.natAbs < 2 ^ 64 := ⟨by omega, by omega, h⟩
  simp only [binP, if_pos h3, Int.toNat_natCast]
theorem v_addl {xs ys : List P} (h : xs.length + ys.length ≤ big) : binP .Add (.lst xs) (.lst ys) = some (.n (xs ++ ys)) := by simp only [binP, if_pos h]
theorem v_addt {xs ys : List P} (h : xs.length + ys.length ≤ big) : binP .Add (.tup xs) (.tup ys) = some (.p (.tup (xs ++ ys))) := by simp only [binP, if_pos h]
theorem v_adds {xs ys : Str} (h : xs.length + ys.length ≤ big) : binP .Add (.str xs) (.str ys) = some (.p (.str (xs ++ ys))) := by simp only [binP, if_pos h]
theorem v_mull {xs : List P} {n : Nat} (h : xs.length * n ≤ big) (h2 : n < 2 ^ 62) : binP .Mult (.lst xs) (.int (n : Int)) = some (.n (List.replicate n xs).flatten) := by
  have h3 : (n : Int).natAbs < 2 ^ 63 ∧ xs.length * (n : Int).toNat ≤ big := ⟨by omega, by rw [Int.toNat_natCast]; exact h⟩
  simp only [binP]
  rw [if_pos h3, Int.toNat_natCast]
theorem v_mult {xs : List P} {n : Nat} (h : xs ≠ []) (h1 : xs.length ≤ 1000) (h2 : 2 ≤ n) (h3 : n ≤ 1000) : binP .Mult (.tup xs) (.int (n : Int)) = some (.p (.tup (List.replicate n xs).flatten)) := by
  have h4 : xs ≠ [] ∧ 2 ≤ (n : Int) ∧ (n : Int).natAbs ≤ 1000 ∧ xs.length ≤ 1000 := ⟨h, by omega, by omega, h1⟩
  simp only [binP, if_pos h4, Int.toNat_natCast]
theorem v_lt {α : Type} {i j : Int} {μ : Mu} {f : Bool → Out α} : cmpR .Lt (.p (.int i)) (.p (.int j)) μ f = f (decide (i < j)) := rfl
theorem v_le {α : Type} {i j : Int} {μ : Mu} {f : Bool → Out α} : cmpR .LtE (.p (.int i)) (.p (.int j)) μ f = f (decide (i ≤ j)) := rfl
theorem v_gt {α : Type} {i j : Int} {μ : Mu} {f : Bool → Out α} : cmpR .Gt (.p (.int i)) (.p (.int j)) μ f = f (decide (j < i)) := rfl
theorem v_ge {α : Type} {i j : Int} {μ : Mu} {f : Bool → Out α} : cmpR .GtE (.p (.int i)) (.p (.int j)) μ f = f (decide (j ≤ i)) := rfl
theorem v_eq {α : Type} {i j : Int} {μ : Mu} {f : Bool → Out α} : cmpR .Eq (.p (.int i)) (.p (.int j)) μ f = f (decide (i = j)) := rfl
theorem v_ne {α : Type} {i j : Int} {μ : Mu} {f : Bool → Out α} : cmpR .NotEq (.p (.int i)) (.p (.int j)) μ f = f (!decide (i = j)) := rfl
theorem v_eqs {α : Type} {i j : Str} {μ : Mu} {f : Bool → Out α} : cmpR .Eq (.p (.str i)) (.p (.str j)) μ f = f (decide (i = j)) := rfl
theorem v_nes {α : Type} {i j : Str} {μ : Mu} {f : Bool → Out α} : cmpR .NotEq (.p (.str i)) (.p (.str j)) μ f = f (!decide (i = j)) := rfl
theorem v_isN {α : Type} {a : P} {μ : Mu} {f : Bool → Out α} : cmpR .Is (.p a) (.p .non) μ f = f (match a with | .non => true | _ => false) := rfl
theorem v_isNN {α : Type} {a : P} {μ : Mu} {f : Bool → Out α} : cmpR .IsNot (.p a) (.p .non) μ f = f (match a with | .non => false | _ => true) := rfl
theorem v_ltt {α : Type} {xs ys : List P} {ns ms : List Int} {μ : Mu} {f : Bool → Out α} (h : intsOf xs = some ns) (h2 : intsOf ys = some ms) : cmpR .Lt (.p (.tup xs)) (.p (.tup ys)) μ f = f (HT.lexLt ns ms) := by simp only [cmpR, v_onP_p, cmpP, h, h2]
theorem v_cmpE {α : Type} {a b : P} {k : Bool} {x y : Rv} {μ : Mu} {f : Bool → Out α} (hx : asP x μ = some a) (hy : asP y μ = some b) (h : eqP a b = some k) : cmpR .Eq x y μ f = f k := by simp only [cmpR, onP, hx, hy, cmpP, h]
theorem v_cmpN {α : Type} {a b : P} {k : Bool} {x y : Rv} {μ : Mu} {f : Bool → Out α} (hx : asP x μ = some a) (hy : asP y μ = some b) (h : eqP a b = some k) : cmpR .NotEq x y μ f = f (!k) := by simp only [cmpR, onP, hx, hy, cmpP, h, Option.map_some]
theorem v_binR {op : Operator} {x y : Rv} {μ : Mu} : binR op x y μ = onP x μ fun d => onP y μ fun e => Out.of (binP op d e) μ := rfl
theorem v_frz_p {d : P} {μ : Mu} : frzO (.p d) μ = .ok d μ := rfl
theorem v_frz_n {d : List P} {μ : Mu} : frzO (.n d) μ = .ok (.lst d) μ := rfl
theorem v_pop_p {d : P} {μ : Mu} {k : Nat} : popR (.p d) μ k = .ok (.p d) (μ.take k) := rfl
theorem v_pop_n {d : List P} {μ : Mu} {k : Nat} : popR (.n d) μ k = .ok (.n d) (μ.take k) := rfl
theorem v_sto_p {d : P} {al : Bool} {μ : Mu} : stoR al (.p d) μ = (.p d, μ) := by cases al <;> rfl
theorem v_sto_n {d : List P} {μ : Mu} : stoR false (.n d) μ = (.p (.lst d), μ) := rfl
theorem v_sto_t {d : List P} {μ : Mu} : stoR true (.n d) μ = (.o μ.length, μ ++ [.lst d]) := rfl
theorem v_sto_o {j : Nat} {al : Bool} {μ : Mu} : stoR al (.o j) μ = (.o j, μ) := by cases al <;> rfl
theorem v_lst {ds : List P} {μ : Mu} (h : ds.length ≤ big) : lstR ds μ = .ok (.n ds) μ := by simp only [lstR, if_pos h]
theorem v_tup {ds : List P} {μ : Mu} (h : ds.length ≤ big) : tupR ds μ = .ok (.p (.tup ds)) μ := by simp only [tupR, if_pos h]
theorem v_lenR {α : Type} {ds : List P} {f : Out α} (h : ds.length ≤ big) : lenR ds f = f := by simp only [lenR, if_pos h]
theorem v_len_s {scr : List Int} {μ : Mu} : biR scr .len .scr μ = .ok (.p (.int scr.length)) μ := rfl
theorem v_bi_p {scr : List Int} {b : Bi} {d : P} {μ : Mu} : biR scr b (.p d) μ = Out.of (biP b [d]) μ := by cases b <;> rfl
theorem v_bi_n {scr : List Int} {b : Bi} {d : List P} {μ : Mu} : biR scr b (.n d) μ = Out.of (biP b [.lst d]) μ := by cases b <;> rfl
theorem v_bi_o {scr : List Int} {b : Bi} {k : Nat} {xs : List P} {μ : Mu} (h : μ[k]? = some (.lst xs)) : biR scr b (.o k) μ = Out.of (biP b [.lst xs]) μ := by cases b <;> simp only [biR, v_onP_o h]
theorem v_len_l {xs : List P} : biP .len [.lst xs] = some (.p (.int xs.length)) := rfl
theorem v_len_t {xs : List P} : biP .len [.tup xs] = some (.p (.int xs.length)) := rfl
theorem v_sum_l {xs : List P} {ns : List Int} (h : intsOf xs = some ns) : biP .sum [.lst xs] = some (.p (.int ns.sum)) := by simp only [biP, h, Option.map_some]
theorem v_sum_t {xs : List P} {ns : List Int} (h : intsOf xs = some ns) : biP .sum [.tup xs] = some (.p (.int ns.sum)) := by simp only [biP, h, Option.map_some]
theorem v_all {xs : List P} {bs : List Bool} (h : blsOf xs = some bs) : biP .all [.lst xs] = some (.p (.bl (bs.all id))) := by simp only [biP, h, Option.map_some]
theorem v_any {xs : List P} {bs : List Bool} (h : blsOf xs = some bs) : biP .any [.lst xs] = some (.p (.bl (bs.any id))) := by simp only [biP, h, Option.map_some]
theorem v_min_t {xs : List P} {n : Int} {ns : List Int} (h : intsOf xs = some (n :: ns)) : biP .min1 [.tup xs] = some (.p (.int (minL (n :: ns)))) := by simp only [biP, h]
theorem v_max_t {xs : List P} {n : Int} {ns : List Int} (h : intsOf xs = some (n :: ns)) : biP .max1 [.tup xs] = some (.p (.int (maxL (n :: ns)))) := by simp only [biP, h]
theorem v_min_l {xs : List P} {n : Int} {ns : List Int} (h : intsOf xs = some (n :: ns)) : biP .min1 [.lst xs] = some (.p (.int (minL (n :: ns)))) := by simp only [biP, h]
theorem v_max_l {xs : List P} {n : Int} {ns : List Int} (h : intsOf xs = some (n :: ns)) : biP .max1 [.lst xs] = some (.p (.int (maxL (n :: ns)))) := by simp only [biP, h]
theorem v_list_l {xs : List P} : biP .list [.lst xs] = some (.n xs) := rfl
theorem v_list_t {xs : List P} : biP .list [.tup xs] = some (.n xs) := rfl
theorem v_tuple_l {xs : List P} : biP .tuple [.lst xs] = some (.p (.tup xs)) := rfl
theorem v_tuple_t {xs : List P} : biP .tuple [.tup xs] = some (.p (.tup xs)) := rfl
theorem v_idx_t {scr : List Int} {xs : List P} {i : Int} {x : P} {μ : Mu} (h : L2.atI xs i = some x) : idxR scr (.p (.tup xs)) (.p (.int i)) μ = .ok (.p x) μ := by simp only [idxR, v_onP_p, idxP, h, Option.map_some, v_of]
theorem v_idx_l {scr : List Int} {xs : List P} {i : Int} {x : P} {μ : Mu} (h : L2.atI xs i = some x) : idxR scr (.p (.lst xs)) (.p (.int i)) μ = .ok (.p x) μ := by simp only [idxR, v_onP_p, idxP, h, Option.map_some, v_of]
theorem v_idx_n {scr : List Int} {xs : List P} {i : Int} {x : P} {μ : Mu} (h : L2.atI xs i = some x) : idxR scr (.n xs) (.p (.int i)) μ = .ok (.p x) μ := by simp only [idxR, v_onP_n, v_onP_p, idxP, h, Option.map_some, v_of]
theorem v_idx_o {scr : List Int} {k : Nat} {xs : List P} {i : Int} {x : P} {μ : Mu} (hk : μ[k]? = some (.lst xs)) (h : L2.atI xs i = some x) : idxR scr (.o k) (.p (.int i)) μ = .ok (.p x) μ := by simp only [idxR, v_onP_o hk, v_onP_p, idxP, h, Option.map_some, v_of]
theorem v_idx_s {scr : List Int} {i x : Int} {μ : Mu} (h : L2.atI scr i = some x) : idxR scr .scr (.p (.int i)) μ = .ok (.p (.int x)) μ := by simp only [idxR, v_int, h, Option.map_some, v_of]
theorem v_tg1 {α : Type} {i : Nat} {d : P} {ρ : Env} {f : Env → Out α} : tgR false [i] d ρ f = f (ρ.set i (some (.p d))) := rfl
theorem v_app {k : Nat} {xs : List P} {d : P} {ρ : Env} {μ : Mu} (h : μ[k]? = some (.lst xs)) (hl : xs.length < big) : appR (.o k) d ρ μ = .ok (.nx ρ) (μ.set k (.lst (xs ++ [d]))) := by simp only [appR, v_obj h, if_pos hl]
theorem v_seti {k : Nat} {xs : List P} {d : P} {i : Int} {j : Nat} {ρ : Env} {μ : Mu} (h : μ[k]? = some (.lst xs)) (hj : L2.ixN xs.length i = some j) : setiR (.p d) (.o k) (.p (.int i)) ρ μ = .ok (.nx ρ) (μ.set k (.lst (xs.set j d))) := by simp only [setiR, v_data, v_obj h, v_int, v_ix hj]
theorem v_thn_n {ρ : Env} {μ : Mu} {k : Env → Out Fl} : thenF (.nx ρ) μ k = k ρ := rfl
theorem v_thn_r {r : Rv} {μ : Mu} {k : Env → Out Fl} : thenF (.rt r) μ k = .ok (.rt r) μ := rfl
theorem v_okB {b : Bool} {μ : Mu} : okB b μ = .ok (.p (.bl b)) μ := rfl
theorem v_noexc {α : Type} {a : α} {μ : Mu} : (Out.ok a μ).noexc = .ok a μ := rfl
theorem v_arg_p {d : P} : argR (.p d) = .p d := rfl
theorem v_arg_n {d : List P} : argR (.n d) = .p (.lst d) := rfl
theorem v_arg_o {d : Nat} : argR (.o d) = .o d := rfl
theorem v_arg_s : argR .scr = .scr := rfl
theorem ix_pos {n : Nat} {i : Int} (h : 0 ≤ i) (h2 : i < n) : L2.ixN n i = some i.toNat := by simp only [L2.ixN, if_pos h, if_pos h2]
theorem at_nat {α : Type} {xs : List α} {j : Nat} {x : α} (h : xs[j]? = some x) : L2.atI xs (j : Int) = some x := by
  have h2 : j < xs.length := (List.getElem?_eq_some_iff.mp h).1
  unfold L2.atI
  rw [ix_pos (by omega) (by omega), Int.toNat_natCast]
  exact h
theorem intsOf_map : ∀ ns : List Int, intsOf (ns.map .int) = some ns
  | [] => rfl
  | n :: ns => by simp only [List.map_cons, intsOf, intsOf_map ns, Option.map_some]
theorem blsOf_map {α : Type} (f : α → Bool) : ∀ ns : List α, blsOf (ns.map fun x => .bl (f x)) = some (ns.map f)
  | [] => rfl
  | n :: ns => by simp only [List.map_cons, blsOf, blsOf_map f ns, Option.map_some]
section
variable {α : Type} {μ l : List α} {y : α} {k : Nat}
theorem v_g0 : (μ ++ l)[μ.length]? = l[0]? := by rw [List.getElem?_append_right (Nat.le_refl _), Nat.sub_self]
theorem v_gk : (μ ++ l)[μ.length + k]? = l[k]? := by rw [List.getElem?_append_right (by omega), Nat.add_sub_cancel_left]
theorem v_s0 : (μ ++ l).set μ.length y = μ ++ l.set 0 y := by rw [List.set_append_right _ _ (Nat.le_refl _), Nat.sub_self]
theorem v_sk : (μ ++ l).set (μ.length + k) y = μ ++ l.set k y := by rw [List.set_append_right _ _ (by omega), Nat.add_sub_cancel_left]
theorem v_tk : (μ ++ l).take μ.length = μ := by rw [List.take_append_of_le_length (Nat.le_refl _), List.take_length]
end
theorem v_isx {isx : Str → Str → Option Bool} {c n : Str} {b : Bool} {μ : Mu} (h : isx n c = some b) : isxR isx c (.p (.exc n)) μ = .ok (.p (.bl b)) μ := by simp only [isxR, h, v_okB]
/-- a list of numbers by place -/
def fl (n : Nat) (g : Nat → Int) : List P := (List.range n).map fun q => .int (g q)
theorem fl_len {n : Nat} {g : Nat → Int} : (fl n g).length = n := by simp [fl]
theorem fl_get {n p : Nat} {g : Nat → Int} (h : p < n) : (fl n g)[p]? = some (.int (g p)) := by simp [fl, h]
theorem fl_at {n p : Nat} {g : Nat → Int} (h : p < n) : L2.atI (fl n g) (p : Int) = some (.int (g p)) := at_nat (fl_get h)
theorem fl_set {n p : Nat} {g : Nat → Int} {v : Int} : (fl n g).set p (.int v) = fl n fun q => if q = p then v else g q := by
  apply List.ext_getElem?
  intro i
  by_cases hi : i < n
  · by_cases hp : p = i
    · subst hp
      rw [List.getElem?_set_self (by rw [fl_len]; exact hi), fl_get hi, if_pos rfl]
    · rw [List.getElem?_set_ne hp, fl_get hi, fl_get hi, if_neg (Ne.symm hp)]
  · rw [List.getElem?_eq_none (by rw [List.length_set, fl_len]; omega), List.getElem?_eq_none (by rw [fl_len]; omega)]
theorem fl_ix {n p : Nat} {g : Nat → Int} (h : p < n) : L2.ixN (fl n g).length (p : Int) = some p := by
  rw [fl_len, ix_pos (by omega) (by omega), Int.toNat_natCast]
theorem fl_ints {n : Nat} {g : Nat → Int} : fl n g = ((List.range n).map g).map .int := by simp [fl]
theorem fl_snoc {n : Nat} {g : Nat → Int} : fl (n + 1) g = fl n g ++ [.int (g n)] := by simp [fl, List.range_succ]
theorem fl_take {n k : Nat} {g : Nat → Int} (h : k ≤ n) : (fl n g).take k = fl k g := by
  unfold fl
  rw [← List.map_take, List.take_range, Nat.min_eq_left h]
theorem cut_to {xs : List P} {k : Nat} (h : k ≤ xs.length) : cutP xs none (some (k : Int)) = xs.take k := by
  unfold cutP
  rw [HT.sIx_none, HT.sIx_nat, Nat.min_eq_left h, List.drop_zero, Nat.sub_zero]
theorem cut_from {xs : List P} {k : Nat} (h : k ≤ xs.length) : cutP xs (some (k : Int)) none = xs.drop k := by
  unfold cutP
  rw [HT.sIx_none, HT.sIx_nat, Nat.min_eq_left h, List.take_of_length_le (by simp)]
theorem v_aug1 {α : Type} {k n p : Nat} {g : Nat → Int} {μ : Mu} {f : Nat → Int → Int → Out α} (h : μ[k]? = some (.lst (fl n g))) (hp : p < n) : augR1 (.o k) (.p (.int (p : Int))) μ f = f k p (g p) := by
  simp only [augR1, v_obj h, v_int, v_ix (fl_ix (g := g) hp), fl_get hp]
theorem v_aug2 {k n p : Nat} {g : Nat → Int} {a b : Int} {ρ : Env} {μ : Mu} (h : μ[k]? = some (.lst (fl n g))) (hp : p < n) : augR2 .Add k (p : Int) a (.p (.int b)) ρ μ = .ok (.nx ρ) (μ.set k (.lst (fl n fun q => if q = p then a + b else g q))) := by
  simp only [augR2, v_int, v_obj h, v_ix (fl_ix (g := g) hp), augO, v_of, Out.bind_ok, fl_set]
theorem v_neg {cl : Cl} {a : E} {ρ : Env} {μ : Mu} : evE cl (.neg a) false ρ μ = (evE cl a false ρ μ).bind fun x μ1 => intR x fun i => .ok (.p (.int (-i))) μ1 := by
  simp only [evE, Bool.false_eq_true, if_false]
theorem ss_next {cl : Cl} {s : S} {ss : List S} {ρ ρ1 : Env} {μ μ1 : Mu} (h : evS cl s ρ μ = .ok (.nx ρ1) μ1) : evSs cl (s :: ss) ρ μ = evSs cl ss ρ1 μ1 := by simp only [evSs, h, Out.bind_ok, v_thn_n]
theorem ss_last {cl : Cl} {s : S} {ss : List S} {ρ : Env} {r : Rv} {μ μ1 : Mu} (h : evS cl s ρ μ = .ok (.rt r) μ1) : evSs cl (s :: ss) ρ μ = .ok (.rt r) μ1 := by simp only [evSs, h, Out.bind_ok, v_thn_r]
theorem fn_ret {cl : Cl} {f : Fn} {args : List Rv} {ρ : Env} {r : Rv} {μ μ1 : Mu} (hl : args.length = f.ps) (hρ : args.map some ++ List.replicate (f.n - f.ps) none = ρ) (h : evSs cl f.body ρ μ = .ok (.rt r) μ1) : evFn cl f args μ = popR r μ1 μ.length := by
  unfold evFn
  rw [if_pos hl, hρ, h]
end R

set_option Elab.async false
set_option linter.all false
set_option maxRecDepth 100000
set_option maxHeartbeats 1000000
/-! # R17: more reading rules: data compared, ranges, searches -/
namespace R
open PySem
/-! ### things by a written place -/
theorem at_0 {α : Type} {x : α} {xs : List α} : L2.atI (x :: xs) 0 = some x := at_nat (j := 0) rfl
theorem at_1 {α : Type} {x y : α} {xs : List α} : L2.atI (x :: y :: xs) 1 = some y := at_nat (j := 1) rfl
theorem at_2 {α : Type} {x y z : α} {xs : List α} : L2.atI (x :: y :: z :: xs) 2 = some z := at_nat (j := 2) rfl
theorem at_3 {α : Type} {x y z t : α} {xs : List α} : L2.atI (x :: y :: z :: t :: xs) 3 = some t := at_nat (j := 3) rfl
section
variable {scr : List Int} {x y z t : P} {xs : List P} {μ : Mu}
theorem v_ix0 : idxR scr (.p (.tup (x :: xs))) (.p (.int 0)) μ = .ok (.p x) μ := v_idx_t at_0
theorem v_ix1 : idxR scr (.p (.tup (x :: y :: xs))) (.p (.int 1)) μ = .ok (.p y) μ := v_idx_t at_1
theorem v_ix2 : idxR scr (.p (.tup (x :: y :: z :: xs))) (.p (.int 2)) μ = .ok (.p z) μ := v_idx_t at_2
theorem v_ix3 : idxR scr (.p (.tup (x :: y :: z :: t :: xs))) (.p (.int 3)) μ = .ok (.p t) μ := v_idx_t at_3
theorem v_il0 : idxR scr (.p (.lst (x :: xs))) (.p (.int 0)) μ = .ok (.p x) μ := v_idx_l at_0
theorem v_il1 : idxR scr (.p (.lst (x :: y :: xs))) (.p (.int 1)) μ = .ok (.p y) μ := v_idx_l at_1
theorem v_in0 : idxR scr (.n (x :: xs)) (.p (.int 0)) μ = .ok (.p x) μ := v_idx_n at_0
theorem v_in1 : idxR scr (.n (x :: y :: xs)) (.p (.int 1)) μ = .ok (.p y) μ := v_idx_n at_1
theorem v_in2 : idxR scr (.n (x :: y :: z :: xs)) (.p (.int 2)) μ = .ok (.p z) μ := v_idx_n at_2
end
theorem v_tg2 {α : Type} {i j : Nat} {d e : P} {ρ : Env} {f : Env → Out α} : tgR true [i, j] (.tup [d, e]) ρ f = f ((ρ.set i (some (.p d))).set j (some (.p e))) := rfl
/-! ### sides, boards -/
abbrev sd (xs : List Int) : P := .tup (xs.map .int)
abbrev bd (a b : List Int) : P := .tup [sd a, sd b]
section
variable {scr : List Int} {xs : List Int} {μ : Mu}
theorem v_sum_ti : biP .sum [.tup (xs.map .int)] = some (.p (.int xs.sum)) := v_sum_t (intsOf_map _)
theorem v_sum_li : biP .sum [.lst (xs.map .int)] = some (.p (.int xs.sum)) := v_sum_l (intsOf_map _)
theorem at_map {α β : Type} {g : α → β} {xs : List α} {i : Int} : L2.atI (xs.map g) i = (L2.atI xs i).map g := by
  unfold L2.atI
  rw [List.length_map]
  cases L2.ixN xs.length i with
  | none => rfl
  | some j => simp
/-- at a place that is there -/
def gi (xs : List Int) (i : Int) : Int := xs.getD i.toNat 0
theorem at_gi {i : Int} (h : 0 ≤ i) (h2 : i < xs.length) : L2.atI xs i = some (gi xs i) := by
  have hl : i.toNat < xs.length := by omega
  have q := at_nat (xs := xs) (j := i.toNat) (x := gi xs i) (by
    unfold gi
    rw [List.getD_eq_getElem?_getD, List.getElem?_eq_getElem hl]
    rfl)
  rw [Int.toNat_of_nonneg h] at q
  exact q
theorem v_sd {i : Int} (h : 0 ≤ i) (h2 : i < xs.length) : idxR scr (.p (.tup (xs.map .int))) (.p (.int i)) μ = .ok (.p (.int (gi xs i))) μ := by
  refine v_idx_t ?_
  rw [at_map, at_gi h h2]
  rfl
theorem v_so {k : Nat} {i : Int} (hk : μ[k]? = some (.lst (xs.map .int))) (h : 0 ≤ i) (h2 : i < xs.length) : idxR scr (.o k) (.p (.int i)) μ = .ok (.p (.int (gi xs i))) μ := by
  refine v_idx_o hk ?_
  rw [at_map, at_gi h h2]
  rfl
/-- another number at a place -/
def si (xs : List Int) (i v : Int) : List Int := xs.set i.toNat v
theorem si_len {i v : Int} : (si xs i v).length = xs.length := by simp [si]
theorem ix_ge {n : Nat} {i : Int} (h : 0 ≤ i) (h2 : i < n) : L2.ixN n i = some i.toNat := ix_pos h h2
theorem v_ssi {k : Nat} {i v : Int} {ρ : Env} (hk : μ[k]? = some (.lst (xs.map .int))) (h : 0 ≤ i) (h2 : i < xs.length) : setiR (.p (.int v)) (.o k) (.p (.int i)) ρ μ = .ok (.nx ρ) (μ.set k (.lst ((si xs i v).map .int))) := by
  rw [v_seti hk (by rw [List.length_map]; exact ix_ge h h2), ← List.map_set]
  rfl
theorem v_a1 {α : Type} {k : Nat} {i : Int} {f : Nat → Int → Int → Out α} (hk : μ[k]? = some (.lst (xs.map .int))) (h : 0 ≤ i) (h2 : i < xs.length) : augR1 (.o k) (.p (.int i)) μ f = f k i (gi xs i) := by
  have hl : i.toNat < xs.length := by omega
  have e : (xs.map P.int)[i.toNat]? = some (.int (gi xs i)) := by
    rw [List.getElem?_map, List.getElem?_eq_getElem hl, gi, List.getD_eq_getElem?_getD, List.getElem?_eq_getElem hl]
    rfl
  have hx : L2.ixN (xs.map P.int).length i = some i.toNat := by rw [List.length_map]; exact ix_ge h h2
  simp only [augR1, v_obj hk, v_int, v_ix hx, e]
theorem v_a2 {k : Nat} {i a b : Int} {ρ : Env} (hk : μ[k]? = some (.lst (xs.map .int))) (h : 0 ≤ i) (h2 : i < xs.length) : augR2 .Add k i a (.p (.int b)) ρ μ = .ok (.nx ρ) (μ.set k (.lst ((si xs i (a + b)).map .int))) := by
  have hx : L2.ixN (xs.map P.int).length i = some i.toNat := by rw [List.length_map]; exact ix_ge h h2
  simp only [augR2, v_int, v_obj hk, v_ix hx, augO, v_of, Out.bind_ok, ← List.map_set]
  rfl
theorem v_a3 {k : Nat} {i a b : Int} {ρ : Env} (hk : μ[k]? = some (.lst (xs.map .int))) (h : 0 ≤ i) (h2 : i < xs.length) : augR2 .Sub k i a (.p (.int b)) ρ μ = .ok (.nx ρ) (μ.set k (.lst ((si xs i (a - b)).map .int))) := by
  have hx : L2.ixN (xs.map P.int).length i = some i.toNat := by rw [List.length_map]; exact ix_ge h h2
  simp only [augR2, v_int, v_obj hk, v_ix hx, augO, v_of, Out.bind_ok, ← List.map_set]
  rfl
end
theorem gi_si {xs : List Int} {i j v : Int} (h : 0 ≤ i) (h2 : i < xs.length) (h3 : 0 ≤ j) : gi (si xs i v) j = if j = i then v else gi xs j := by
  unfold gi si
  rw [List.getD_eq_getElem?_getD, List.getD_eq_getElem?_getD, List.getElem?_set]
  by_cases e : i.toNat = j.toNat
  · have e2 : j = i := by omega
    rw [if_pos e, if_pos e2, if_pos (by omega)]
    rfl
  · have e2 : ¬ j = i := by omega
    rw [if_neg e, if_neg e2]
theorem sum_set : ∀ (xs : List Int) (n : Nat) (v : Int), n < xs.length → (xs.set n v).sum = xs.sum + v - xs.getD n 0
  | [], _, _, h => absurd h (Nat.not_lt_zero _)
  | x :: xs, 0, v, _ => by
    show v + xs.sum = x + xs.sum + v - x
    omega
  | x :: xs, n + 1, v, h => by
    have ih := sum_set xs n v (by simpa using h)
    show x + (xs.set n v).sum = x + xs.sum + v - xs.getD n 0
    rw [ih]
    omega
theorem si_sum {xs : List Int} {i v : Int} (h : 0 ≤ i) (h2 : i < xs.length) : (si xs i v).sum = xs.sum + v - gi xs i := sum_set xs _ v (by omega)
/-! ### data compared -/
mutual
def good : Nat → P → Bool
  | _, .non => true
  | _, .int _ => true
  | _, .str s => PyData.strOk s
  | n + 1, .tup xs => goods n xs
  | n + 1, .lst xs => goods n xs
  | _, _ => false
def goods : Nat → List P → Bool
  | _, [] => true
  | n, x :: xs => good n x && goods n xs
end
mutual
theorem good_py : ∀ (n : Nat) (a : P), good n a = true → ∃ d, pyOf a = some d ∧ d.canLay0 = true ∧ d.depth ≤ n
  | n, .non, _ => ⟨.none, rfl, rfl, by simp [PyData.depth]⟩
  | n, .int i, _ => ⟨.int i, rfl, rfl, by simp [PyData.depth]⟩
  | n, .str s, h => ⟨.str s, rfl, by simpa [PyData.canLay0, good] using h, by simp [PyData.depth]⟩
  | 0, .tup xs, h => by simp [good] at h
  | n + 1, .tup xs, h => by
    obtain ⟨ds, e, h1, h2⟩ := goods_py n xs (by simpa [good] using h)
    exact ⟨.tuple ds, by simp [pyOf, e], by simpa [PyData.canLay0] using h1, by simp [PyData.depth]; omega⟩
  | 0, .lst xs, h => by simp [good] at h
  | n + 1, .lst xs, h => by
    obtain ⟨ds, e, h1, h2⟩ := goods_py n xs (by simpa [good] using h)
    exact ⟨.list ds, by simp [pyOf, e], by simpa [PyData.canLay0] using h1, by simp [PyData.depth]; omega⟩
  | n, .bl _, h => by simp [good] at h
  | n, .exc _, h => by simp [good] at h
theorem goods_py : ∀ (n : Nat) (a : List P), goods n a = true → ∃ d, pyOfs a = some d ∧ PyData.canLayAll0 d = true ∧ PyData.depthAll d ≤ n
  | n, [], _ => ⟨[], rfl, rfl, by simp [PyData.depthAll]⟩
  | n, x :: xs, h => by
    have h' : good n x = true ∧ goods n xs = true := by simpa [goods] using h
    obtain ⟨d, e, h1, h2⟩ := good_py n x h'.1
    obtain ⟨ds, e', h1', h2'⟩ := goods_py n xs h'.2
    exact ⟨d :: ds, by simp [pyOfs, e, e'], by simp [PyData.canLayAll0, h1, h1'], by simp [PyData.depthAll]; omega⟩
end
def EqvAt (n : Nat) : Prop := ∀ (m : Nat) (a b : P) (d e : PyData), good n a = true → good m b = true → pyOf a = some d → pyOf b = some e → (PyData.eqv d e = true ↔ a = b)
def EqvsAt (n : Nat) : Prop := ∀ (m : Nat) (a b : List P) (d e : List PyData), goods n a = true → goods m b = true → pyOfs a = some d → pyOfs b = some e → (PyData.eqvAll d e = true ↔ a = b)
theorem eqvs_of {n : Nat} (H : EqvAt n) : EqvsAt n := by
  intro m a
  induction a with
  | nil =>
    intro b d e ha hb ea eb
    cases ea
    cases b with
    | nil => cases eb; simp [PyData.eqvAll]
    | cons y ys =>
      have h' : good m y = true ∧ goods m ys = true := by simpa [goods] using hb
      obtain ⟨k, e1, _⟩ := good_py m y h'.1
      obtain ⟨ks, e2, _⟩ := goods_py m ys h'.2
      simp [pyOfs, e1, e2] at eb
      subst eb
      simp [PyData.eqvAll]
  | cons x xs ih =>
    intro b d e ha hb ea eb
    have h1 : good n x = true ∧ goods n xs = true := by simpa [goods] using ha
    obtain ⟨k, e1, _⟩ := good_py n x h1.1
    obtain ⟨ks, e2, _⟩ := goods_py n xs h1.2
    simp [pyOfs, e1, e2] at ea
    subst ea
    cases b with
    | nil => cases eb; simp [PyData.eqvAll]
    | cons y ys =>
      have h2 : good m y = true ∧ goods m ys = true := by simpa [goods] using hb
      obtain ⟨l, e3, _⟩ := good_py m y h2.1
      obtain ⟨ls, e4, _⟩ := goods_py m ys h2.2
      simp [pyOfs, e3, e4] at eb
      subst eb
      have i1 := H m x y k l h1.1 h2.1 e1 e3
      have i2 := ih ys ks ls h1.2 h2.2 e2 e4
      simp [PyData.eqvAll, i1, i2]
theorem eqv_scal {n m : Nat} {a b : P} {d e : PyData} (hs : scalP a = true) (ha : good n a = true) (hb : good m b = true) (ea : pyOf a = some d) (eb : pyOf b = some e) : PyData.eqv d e = true ↔ a = b := by
  cases a <;> simp [scalP] at hs <;> simp [good, pyOf] at ha ea <;> subst ea
  all_goals (cases b <;> simp [good, pyOf] at hb eb)
  all_goals (try (subst eb; simp [PyData.eqv]))
  all_goals (obtain ⟨_, _, rfl⟩ := eb; simp [PyData.eqv])
theorem py_tup {xs : List P} {d : PyData} (h : pyOf (.tup xs) = some d) : ∃ ds, pyOfs xs = some ds ∧ d = .tuple ds := by
  simp [pyOf] at h
  obtain ⟨ds, h, rfl⟩ := h
  exact ⟨ds, h, rfl⟩
theorem py_lst {xs : List P} {d : PyData} (h : pyOf (.lst xs) = some d) : ∃ ds, pyOfs xs = some ds ∧ d = .list ds := by
  simp [pyOf] at h
  obtain ⟨ds, h, rfl⟩ := h
  exact ⟨ds, h, rfl⟩
theorem good_tup {m : Nat} {xs : List P} (h : good m (.tup xs) = true) : ∃ k, goods k xs = true := by
  cases m with
  | zero => simp [good] at h
  | succ k => exact ⟨k, by simpa [good] using h⟩
theorem good_lst {m : Nat} {xs : List P} (h : good m (.lst xs) = true) : ∃ k, goods k xs = true := by
  cases m with
  | zero => simp [good] at h
  | succ k => exact ⟨k, by simpa [good] using h⟩
theorem eqv_tup {n m : Nat} (H : EqvsAt n) {xs ys : List P} {d e : PyData} (ha : goods n xs = true) (hb : good m (.tup ys) = true) (ea : pyOf (.tup xs) = some d) (eb : pyOf (.tup ys) = some e) : PyData.eqv d e = true ↔ P.tup xs = .tup ys := by
  obtain ⟨k, hb⟩ := good_tup hb
  obtain ⟨ds, hd, rfl⟩ := py_tup ea
  obtain ⟨es, he, rfl⟩ := py_tup eb
  have := H k xs ys ds es ha hb hd he
  simp [PyData.eqv, this]
theorem eqv_lst {n m : Nat} (H : EqvsAt n) {xs ys : List P} {d e : PyData} (ha : goods n xs = true) (hb : good m (.lst ys) = true) (ea : pyOf (.lst xs) = some d) (eb : pyOf (.lst ys) = some e) : PyData.eqv d e = true ↔ P.lst xs = .lst ys := by
  obtain ⟨k, hb⟩ := good_lst hb
  obtain ⟨ds, hd, rfl⟩ := py_lst ea
  obtain ⟨es, he, rfl⟩ := py_lst eb
  have := H k xs ys ds es ha hb hd he
  simp [PyData.eqv, this]
theorem eqv_off_t {xs : List P} {b : P} {d e : PyData} (hb : ∀ ys, b ≠ .tup ys) (ea : pyOf (.tup xs) = some d) (eb : pyOf b = some e) : PyData.eqv d e = true ↔ P.tup xs = b := by
  obtain ⟨ds, hd, rfl⟩ := py_tup ea
  constructor
  · intro h
    cases b with
    | tup ys => exact absurd rfl (hb ys)
    | lst ys => obtain ⟨es, he, rfl⟩ := py_lst eb; simp [PyData.eqv] at h
    | exc n => simp [pyOf] at eb
    | _ => cases eb; simp [PyData.eqv] at h
  · rintro rfl
    exact absurd rfl (hb xs)
theorem eqv_off_l {xs : List P} {b : P} {d e : PyData} (hb : ∀ ys, b ≠ .lst ys) (ea : pyOf (.lst xs) = some d) (eb : pyOf b = some e) : PyData.eqv d e = true ↔ P.lst xs = b := by
  obtain ⟨ds, hd, rfl⟩ := py_lst ea
  constructor
  · intro h
    cases b with
    | lst ys => exact absurd rfl (hb ys)
    | tup ys => obtain ⟨es, he, rfl⟩ := py_tup eb; simp [PyData.eqv] at h
    | exc n => simp [pyOf] at eb
    | _ => cases eb; simp [PyData.eqv] at h
  · rintro rfl
    exact absurd rfl (hb xs)
theorem eqv_py : ∀ n : Nat, EqvAt n
  | 0 => by
    intro m a b d e ha hb ea eb
    exact eqv_scal (by cases a <;> simp [good] at ha <;> rfl) ha hb ea eb
  | n + 1 => by
    have H := eqvs_of (eqv_py n)
    intro m a b d e ha hb ea eb
    by_cases hs : scalP a = true
    · exact eqv_scal hs ha hb ea eb
    · cases a with
      | tup xs =>
        by_cases hc : ∃ ys, b = .tup ys
        · obtain ⟨ys, rfl⟩ := hc
          exact eqv_tup H (by simpa [good] using ha) hb ea eb
        · exact eqv_off_t (fun ys h => hc ⟨ys, h⟩) ea eb
      | lst xs =>
        by_cases hc : ∃ ys, b = .lst ys
        · obtain ⟨ys, rfl⟩ := hc
          exact eqv_lst H (by simpa [good] using ha) hb ea eb
        · exact eqv_off_l (fun ys h => hc ⟨ys, h⟩) ea eb
      | exc n => simp [good] at ha
      | _ => exact absurd rfl hs
theorem good_mono : ∀ {n m : Nat} {a : P}, n ≤ m → good n a = true → good m a = true := by
  intro n m a h
  have key : ∀ n : Nat, (∀ m a, n ≤ m → good n a = true → good m a = true) ∧ (∀ m as, n ≤ m → goods n as = true → goods m as = true) := by
    intro n
    induction n with
    | zero =>
      have h1 : ∀ m a, 0 ≤ m → good 0 a = true → good m a = true := by
        intro m a _ h
        cases a <;> simp [good] at h <;> simp [good, h]
      refine ⟨h1, ?_⟩
      intro m as hm h
      induction as with
      | nil => simp [goods]
      | cons a as ih =>
        simp [goods] at h ⊢
        exact ⟨h1 m a hm h.1, ih h.2⟩
    | succ n ih =>
      have h1 : ∀ m a, n + 1 ≤ m → good (n + 1) a = true → good m a = true := by
        intro m a hm h
        match m, hm with
        | m + 1, hm =>
          cases a <;> simp [good] at h <;> simp [good, h]
          · exact ih.2 m _ (by omega) h
          · exact ih.2 m _ (by omega) h
      refine ⟨h1, ?_⟩
      intro m as hm h
      induction as with
      | nil => simp [goods]
      | cons a as ih =>
        simp [goods] at h ⊢
        exact ⟨h1 m a hm h.1, ih h.2⟩
  exact (key n).1 m a h
theorem eqP_good {n m : Nat} {a b : P} (ha : good n a = true) (hb : good m b = true) (hn : n ≤ 60) (hm : m ≤ 60) {p : Prop} [Decidable p] (h : a = b ↔ p) : eqP a b = some (decide p) := by
  obtain ⟨d, ed, d1, d2⟩ := good_py n a ha
  obtain ⟨e, ee, e1, e2⟩ := good_py m b hb
  have q := (eqv_py n m a b d e ha hb ed ee).trans h
  have s1 : SeqAt.shaped d = true := by simp [SeqAt.shaped, d1]; omega
  have s2 : SeqAt.shaped e = true := by simp [SeqAt.shaped, e1]; omega
  have hk : PyData.eqv d e = decide p := by
    by_cases c : p
    · rw [decide_eq_true c, q.mpr c]
    · rw [decide_eq_false c]
      cases hh : PyData.eqv d e with
      | false => rfl
      | true => exact absurd (q.mp hh) c
  have gen : (match pyOf a, pyOf b with
    | some d, some e => if SeqAt.shaped d && SeqAt.shaped e then some (PyData.eqv d e) else none
    | _, _ => none) = some (decide p) := by
    rw [ed, ee]
    simp only [s1, s2, Bool.and_self, if_true, hk]
  unfold eqP
  split
  · congr 1
    exact decide_eq_decide.mpr (Iff.trans (by simp) h)
  · congr 1
    exact decide_eq_decide.mpr (Iff.trans (by simp) h)
  · simp [good] at ha
  · exact gen
section
variable {α : Type} {μ : Mu} {f : Bool → Out α} {a b : P} {p : Prop} [Decidable p]
theorem v_eqg (ha : good 8 a = true) (hb : good 8 b = true) (h : a = b ↔ p) : cmpR .Eq (.p a) (.p b) μ f = f (decide p) := v_cmpE rfl rfl (eqP_good ha hb (by decide) (by decide) h)
theorem v_neg_ (ha : good 8 a = true) (hb : good 8 b = true) (h : a = b ↔ p) : cmpR .NotEq (.p a) (.p b) μ f = f (!decide p) := v_cmpN rfl rfl (eqP_good ha hb (by decide) (by decide) h)
end
theorem goods_map {α : Type} {n : Nat} {g : α → P} {xs : List α} (h : ∀ x ∈ xs, good n (g x) = true) : goods n (xs.map g) = true := by
  induction xs with
  | nil => simp [goods]
  | cons x xs ih =>
    simp [goods, h x (by simp)]
    exact ih fun y hy => h y (List.mem_cons_of_mem _ hy)
theorem good_sd {n : Nat} {xs : List Int} : good (n + 1) (sd xs) = true := by
  simp only [good]
  exact goods_map fun x _ => by simp [good]
theorem good_bd {n : Nat} {a b : List Int} : good (n + 2) (bd a b) = true := by
  show (good (n + 1) (sd a) && (good (n + 1) (sd b) && true)) = true
  rw [good_sd, good_sd]
  rfl
theorem int_inj {xs ys : List Int} : xs.map P.int = ys.map P.int ↔ xs = ys :=
  ⟨fun h => (List.map_inj_right (f := P.int) fun x y e => by cases e; rfl).mp h, fun h => by rw [h]⟩
theorem sd_inj {xs ys : List Int} : sd xs = sd ys ↔ xs = ys := by
  constructor
  · intro h
    injection h with h
    exact int_inj.mp h
  · intro h
    rw [h]
theorem bd_inj {a b c d : List Int} : bd a b = bd c d ↔ a = c ∧ b = d := by
  constructor
  · intro h
    injection h with h
    injection h with h1 h2
    injection h2 with h2 _
    exact ⟨sd_inj.mp h1, sd_inj.mp h2⟩
  · rintro ⟨rfl, rfl⟩
    rfl
section
variable {α : Type} {μ : Mu} {f : Bool → Out α} {a b c d : List Int}
theorem v_eq_sd : cmpR .Eq (.p (.tup (a.map .int))) (.p (.tup (b.map .int))) μ f = f (decide (a = b)) := v_eqg good_sd good_sd sd_inj
theorem v_ne_sd : cmpR .NotEq (.p (.tup (a.map .int))) (.p (.tup (b.map .int))) μ f = f (!decide (a = b)) := v_neg_ good_sd good_sd sd_inj
theorem v_eq_bd : cmpR .Eq (.p (.tup [.tup (a.map .int), .tup (b.map .int)])) (.p (.tup [.tup (c.map .int), .tup (d.map .int)])) μ f = f (decide (a = c ∧ b = d)) := v_eqg good_bd good_bd bd_inj
theorem v_ne_bd : cmpR .NotEq (.p (.tup [.tup (a.map .int), .tup (b.map .int)])) (.p (.tup [.tup (c.map .int), .tup (d.map .int)])) μ f = f (!decide (a = c ∧ b = d)) := v_neg_ good_bd good_bd bd_inj
end
/-! ### ranges -/
def ups (a : Int) (n : Nat) : List Int := (List.range n).map fun k : Nat => a + k
def downs (a : Int) (n : Nat) : List Int := (List.range n).map fun k : Nat => a - k
theorem ups_len {a : Int} {n : Nat} : (ups a n).length = n := by simp [ups]
theorem mem_ups {a x : Int} {n : Nat} : x ∈ ups a n ↔ a ≤ x ∧ x < a + n := by
  unfold ups
  rw [List.mem_map]
  constructor
  · rintro ⟨k, hk, rfl⟩
    have := List.mem_range.mp hk
    omega
  · rintro ⟨h1, h2⟩
    exact ⟨(x - a).toNat, List.mem_range.mpr (by omega), by omega⟩
theorem mem_downs {a x : Int} {n : Nat} : x ∈ downs a n ↔ x ≤ a ∧ a - n < x := by
  unfold downs
  rw [List.mem_map]
  constructor
  · rintro ⟨k, hk, rfl⟩
    have := List.mem_range.mp hk
    omega
  · rintro ⟨h1, h2⟩
    exact ⟨(a - x).toNat, List.mem_range.mpr (by omega), by omega⟩
theorem rng_2 {a b : Int} {n : Nat} (h : a.natAbs < 2 ^ 40) (h2 : b.natAbs < 2 ^ 40) (hn : (b - a).toNat = n) : rngP [a, b] = some ((ups a n).map .int) := by
  simp only [rngP, if_pos (And.intro h h2), ups, List.map_map, hn]
  rfl
theorem rng_n {n : Nat} (h : n < 2 ^ 40) : rngP [(n : Int)] = some ((ups 0 n).map .int) := by
  have h3 : (n : Int).natAbs < 2 ^ 40 := by omega
  have h4 : 0 ≤ (n : Int) := by omega
  simp only [rngP]
  rw [if_pos h3, if_pos h4, Int.toNat_natCast, ups, List.map_map]
  congr 1
  apply List.map_congr_left
  intro k _
  show P.int k = P.int (0 + k)
  rw [Int.zero_add]
theorem rng_3 {a b : Int} {n : Nat} (h : a.natAbs < 2 ^ 40) (h2 : b.natAbs < 2 ^ 40) (hn : (a - b).toNat = n) : rngP [a, b, -1] = some ((downs a n).map .int) := by
  simp only [rngP, downs, List.map_map, hn]
  rw [if_pos ⟨h, h2, trivial⟩]
  rfl
theorem rng_26 : rngP [26] = some ((ups 0 26).map .int) := rng_n (n := 26) (by decide)
theorem rng_1_25 : rngP [1, 25] = some ((ups 1 24).map .int) := rng_2 (by decide) (by decide) (by decide)
theorem rng_1_26 : rngP [1, 26] = some ((ups 1 25).map .int) := rng_2 (by decide) (by decide) (by decide)
theorem rng_1_7 : rngP [1, 7] = some ((ups 1 6).map .int) := rng_2 (by decide) (by decide) (by decide)
theorem rng_7_26 : rngP [7, 26] = some ((ups 7 19).map .int) := rng_2 (by decide) (by decide) (by decide)
theorem rng_25_0 : rngP [25, 0, -1] = some ((downs 25 25).map .int) := rng_3 (by decide) (by decide) (by decide)
theorem rng_25_m : rngP [25, -1, -1] = some ((downs 25 26).map .int) := rng_3 (by decide) (by decide) (by decide)
/-! ### comprehensions, loops -/
theorem compL_g {α : Type} {body : P → Mu → Out (Option P)} {g : α → P} {f : α → P} {xs : List α} {μ : Mu} (h : ∀ x ∈ xs, body (g x) μ = .ok (some (f x)) μ) : compL body (xs.map g) μ = .ok (xs.map f) μ := by
  induction xs with
  | nil => rfl
  | cons d ds ih =>
    have ih := ih fun x hx => h x (List.mem_cons_of_mem _ hx)
    simp only [List.map_cons, compL, h d List.mem_cons_self, Out.bind_ok, ih]
theorem compL_if {α : Type} {body : P → Mu → Out (Option P)} {g : α → P} {f : α → P} {c : α → Bool} {xs : List α} {μ : Mu} (h : ∀ x ∈ xs, body (g x) μ = .ok (if c x = true then some (f x) else none) μ) : compL body (xs.map g) μ = .ok ((xs.filter c).map f) μ := by
  induction xs with
  | nil => rfl
  | cons d ds ih =>
    have ih := ih fun x hx => h x (List.mem_cons_of_mem _ hx)
    simp only [List.map_cons, compL, h d List.mem_cons_self, Out.bind_ok, ih, List.filter_cons]
    cases c d <;> rfl
/-- a loop that ends, or goes out at a bad item -/
theorem forL_all {body : P → Env → Mu → Out Fl} {ds : List P} (Iv : Env → Mu → Prop) {ρ : Env} {μ : Mu} (h0 : Iv ρ μ)
    (hok : ∀ d ∈ ds, ∀ ρ μ, Iv ρ μ → ∃ ρ' μ', body d ρ μ = .ok (.nx ρ') μ' ∧ Iv ρ' μ') : ∃ ρ' μ', forL body ds ρ μ = .ok (.nx ρ') μ' ∧ Iv ρ' μ' := by
  induction ds generalizing ρ μ with
  | nil => exact ⟨ρ, μ, rfl, h0⟩
  | cons d ds ih =>
    obtain ⟨ρ1, μ1, e1, h1⟩ := hok d (by simp) ρ μ h0
    obtain ⟨ρ2, μ2, e2, h2⟩ := ih h1 fun x hx => hok x (List.mem_cons_of_mem _ hx)
    exact ⟨ρ2, μ2, by simp only [forL, e1, Out.bind_ok, thenF, e2], h2⟩
theorem forL_exit {body : P → Env → Mu → Out Fl} {ds : List P} (Iv : Env → Mu → Prop) (bad : P → Prop) (r : Out Fl) (hr : ∀ k : Fl → Mu → Out Fl, (∀ f μ, (∃ v, f = .rt v) → k f μ = .ok f μ) → r.bind k = r) {ρ : Env} {μ : Mu} (h0 : Iv ρ μ)
    (hok : ∀ d ∈ ds, ¬ bad d → ∀ ρ μ, Iv ρ μ → ∃ ρ' μ', body d ρ μ = .ok (.nx ρ') μ' ∧ Iv ρ' μ')
    (hbad : ∀ d ∈ ds, bad d → ∀ ρ μ, Iv ρ μ → body d ρ μ = r) (hx : ∃ d ∈ ds, bad d) : forL body ds ρ μ = r := by
  induction ds generalizing ρ μ with
  | nil => obtain ⟨d, h, _⟩ := hx; exact absurd h (by simp)
  | cons d ds ih =>
    by_cases c : bad d
    · simp only [forL, hbad d (by simp) c ρ μ h0]
      refine hr _ fun f μ h => ?_
      obtain ⟨v, rfl⟩ := h
      rfl
    · obtain ⟨ρ1, μ1, e1, h1⟩ := hok d (by simp) c ρ μ h0
      have := ih h1 (fun x hx => hok x (List.mem_cons_of_mem _ hx)) (fun x hx => hbad x (List.mem_cons_of_mem _ hx)) (by
        obtain ⟨x, hx, hb⟩ := hx
        rcases List.mem_cons.mp hx with rfl | hx
        · exact absurd hb c
        · exact ⟨x, hx, hb⟩)
      simp only [forL, e1, Out.bind_ok, thenF, this]
theorem exit_exc {n : Str} {μ : Mu} : ∀ k : Fl → Mu → Out Fl, (∀ f μ, (∃ v, f = .rt v) → k f μ = .ok f μ) → (Out.exc n μ : Out Fl).bind k = .exc n μ := fun _ _ => rfl
theorem exit_ret {v : Rv} {μ : Mu} : ∀ k : Fl → Mu → Out Fl, (∀ f μ, (∃ v, f = .rt v) → k f μ = .ok f μ) → (Out.ok (.rt v) μ : Out Fl).bind k = .ok (.rt v) μ := fun k h => h _ _ ⟨v, rfl⟩
theorem ss_exc {cl : Cl} {s : S} {ss : List S} {ρ : Env} {n : Str} {μ μ1 : Mu} (h : evS cl s ρ μ = .exc n μ1) : evSs cl (s :: ss) ρ μ = .exc n μ1 := by simp only [evSs, h, Out.bind_exc]
theorem fn_exc {cl : Cl} {f : Fn} {args : List Rv} {ρ : Env} {n : Str} {μ μ1 : Mu} (hl : args.length = f.ps) (hρ : args.map some ++ List.replicate (f.n - f.ps) none = ρ) (h : evSs cl f.body ρ μ = .exc n μ1) : evFn cl f args μ = .exc n (μ1.take μ.length) := by
  unfold evFn
  rw [if_pos hl, hρ, h]
theorem fn_end {cl : Cl} {f : Fn} {args : List Rv} {ρ ρ1 : Env} {μ μ1 : Mu} (hl : args.length = f.ps) (hρ : args.map some ++ List.replicate (f.n - f.ps) none = ρ) (h : evSs cl f.body ρ μ = .ok (.nx ρ1) μ1) : evFn cl f args μ = popR (.p .non) μ1 μ.length := by
  unfold evFn
  rw [if_pos hl, hρ, h]
theorem rep_int {n : Nat} {v : Int} : (List.replicate n [P.int v]).flatten = (List.replicate n v).map .int := by
  induction n with
  | zero => rfl
  | succ n ih => rw [List.replicate_succ, List.flatten_cons, ih, List.replicate_succ, List.map_cons]; rfl
theorem mul_26 : binP .Mult (.lst [.int 0]) (.int 26) = some (.n ((List.replicate 26 (0 : Int)).map .int)) := by
  rw [show (26 : Int) = ((26 : Nat) : Int) from rfl, v_mull (by decide) (by decide), rep_int]
end R
namespace R
open PySem
theorem good_li {n : Nat} {xs : List Int} : good (n + 1) (.lst (xs.map .int)) = true := by
  simp only [good]
  exact goods_map fun x _ => by simp [good]
theorem v_eq_nil {α : Type} {xs : List Int} {μ : Mu} {f : Bool → Out α} : cmpR .Eq (.p (.lst (xs.map .int))) (.n []) μ f = f (decide (xs = [])) :=
  v_cmpE rfl rfl (eqP_good (n := 1) (m := 1) good_li (by simp [good, goods]) (by decide) (by decide) (by cases xs <;> simp))
theorem v_ne_nil {α : Type} {xs : List Int} {μ : Mu} {f : Bool → Out α} : cmpR .NotEq (.p (.lst (xs.map .int))) (.n []) μ f = f (!decide (xs = [])) :=
  v_cmpN rfl rfl (eqP_good (n := 1) (m := 1) good_li (by simp [good, goods]) (by decide) (by decide) (by cases xs <;> simp))
theorem v_max_li {xs : List Int} (h : xs ≠ []) : biP .max1 [.lst (xs.map .int)] = some (.p (.int (maxL xs))) := by
  cases xs with
  | nil => exact absurd rfl h
  | cons n ns => exact v_max_l (intsOf_map (n :: ns))
theorem v_max_ti {xs : List Int} (h : xs ≠ []) : biP .max1 [.tup (xs.map .int)] = some (.p (.int (maxL xs))) := by
  cases xs with
  | nil => exact absurd rfl h
  | cons n ns => exact v_max_t (intsOf_map (n :: ns))
theorem v_min_ti {xs : List Int} (h : xs ≠ []) : biP .min1 [.tup (xs.map .int)] = some (.p (.int (minL xs))) := by
  cases xs with
  | nil => exact absurd rfl h
  | cons n ns => exact v_min_t (intsOf_map (n :: ns))
theorem v_min_li {xs : List Int} (h : xs ≠ []) : biP .min1 [.lst (xs.map .int)] = some (.p (.int (minL xs))) := by
  cases xs with
  | nil => exact absurd rfl h
  | cons n ns => exact v_min_l (intsOf_map (n :: ns))
theorem maxL_ge : ∀ (l : List Int), ∀ x ∈ l, x ≤ maxL l
  | [], x, h => absurd h (by simp)
  | [y], x, h => by
    have : x = y := by simpa using h
    subst this
    exact Int.le_refl _
  | y :: z :: r, x, h => by
    show x ≤ max y (maxL (z :: r))
    rcases List.mem_cons.mp h with rfl | h
    · omega
    · have := maxL_ge (z :: r) x h
      omega
theorem maxL_in : ∀ (l : List Int), l ≠ [] → maxL l ∈ l
  | [], h => absurd rfl h
  | [y], _ => by simp [maxL]
  | y :: z :: r, _ => by
    have ih := maxL_in (z :: r) (by simp)
    show max y (maxL (z :: r)) ∈ _
    by_cases c : y ≤ maxL (z :: r)
    · rw [Int.max_eq_right c]
      exact List.mem_cons_of_mem _ ih
    · rw [Int.max_eq_left (by omega)]
      exact List.mem_cons_self
theorem minL_lo : ∀ (l : List Int), ∀ x ∈ l, minL l ≤ x
  | [], x, h => absurd h (by simp)
  | [y], x, h => by
    have : x = y := by simpa using h
    subst this
    exact Int.le_refl _
  | y :: z :: r, x, h => by
    show min y (minL (z :: r)) ≤ x
    rcases List.mem_cons.mp h with rfl | h
    · omega
    · have := minL_lo (z :: r) x h
      omega
theorem minL_in : ∀ (l : List Int), l ≠ [] → minL l ∈ l
  | [], h => absurd rfl h
  | [y], _ => by simp [minL]
  | y :: z :: r, _ => by
    have ih := minL_in (z :: r) (by simp)
    show min y (minL (z :: r)) ∈ _
    by_cases c : minL (z :: r) ≤ y
    · rw [Int.min_eq_right c]
      exact List.mem_cons_of_mem _ ih
    · rw [Int.min_eq_left (by omega)]
      exact List.mem_cons_self
theorem v_len_ti {xs : List Int} : biP .len [.tup (xs.map .int)] = some (.p (.int xs.length)) := by rw [v_len_t, List.length_map]
theorem v_addti {xs ys : List Int} (h : xs.length + ys.length ≤ big) : binP .Add (.tup (xs.map .int)) (.tup (ys.map .int)) = some (.p (.tup ((xs ++ ys).map .int))) := by rw [v_addt (by simpa using h), List.map_append]
theorem v_addli {xs ys : List Int} (h : xs.length + ys.length ≤ big) : binP .Add (.lst (xs.map .int)) (.lst (ys.map .int)) = some (.n ((xs ++ ys).map .int)) := by rw [v_addl (by simpa using h), List.map_append]
end R
namespace R
theorem downs_len {a : Int} {n : Nat} : (downs a n).length = n := by simp [downs]
end R
namespace R
open PySem
theorem any_good {n m : Nat} {a : P} {d : PyData} (ha : good m a = true) (hd : pyOf a = some d) : ∀ (xs : List P) (ds : List PyData), goods n xs = true → pyOfs xs = some ds → ((ds.any fun z => PyData.eqv z d) = true ↔ a ∈ xs)
  | [], ds, _, hds => by cases hds; simp
  | x :: xs, ds, hx, hds => by
    have h1 : good n x = true ∧ goods n xs = true := by simpa [goods] using hx
    obtain ⟨k, e1, _⟩ := good_py n x h1.1
    obtain ⟨ks, e2, _⟩ := goods_py n xs h1.2
    simp [pyOfs, e1, e2] at hds
    subst hds
    have i1 := eqv_py n m x a k d h1.1 ha e1 hd
    have i2 := any_good ha hd xs ks h1.2 e2
    rw [List.any_cons, Bool.or_eq_true, i1, i2, List.mem_cons]
    constructor
    · rintro (h | h)
      · exact .inl h.symm
      · exact .inr h
    · rintro (h | h)
      · exact .inl h.symm
      · exact .inr h
theorem inP_good {n m : Nat} {a : P} {xs : List P} (hx : goods n xs = true) (ha : good m a = true) (hn : n ≤ 60) (hm : m ≤ 60) {p : Prop} [Decidable p] (h : a ∈ xs ↔ p) : inP a (.lst xs) = some (decide p) := by
  obtain ⟨d, ed, d1, d2⟩ := good_py m a ha
  obtain ⟨ds, ee, e1, e2⟩ := goods_py n xs hx
  have q := (any_good ha ed xs ds hx ee).trans h
  have s1 : SeqAt.shaped d = true := by simp [SeqAt.shaped, d1]; omega
  have s2 : SeqAt.shaped (.list ds) = true := by simp [SeqAt.shaped, PyData.canLay0, PyData.depth, e1]; omega
  have hk : (ds.any fun z => PyData.eqv z d) = decide p := by
    by_cases c : p
    · rw [decide_eq_true c, q.mpr c]
    · rw [decide_eq_false c]
      cases hh : (ds.any fun z => PyData.eqv z d) with
      | false => rfl
      | true => exact absurd (q.mp hh) c
  simp only [inP, ed, ee, s1, s2, Bool.and_self, if_true, hk]
theorem v_in {α : Type} {μ : Mu} {f : Bool → Out α} {n m : Nat} {a : P} {xs : List P} (hx : goods n xs = true) (ha : good m a = true) (hn : n ≤ 60) (hm : m ≤ 60) {p : Prop} [Decidable p] (h : a ∈ xs ↔ p) : cmpR .In (.p a) (.p (.lst xs)) μ f = f (decide p) := by
  simp only [cmpR, v_onP_p, cmpP, inP_good hx ha hn hm h]
theorem v_notin {α : Type} {μ : Mu} {f : Bool → Out α} {n m : Nat} {a : P} {xs : List P} (hx : goods n xs = true) (ha : good m a = true) (hn : n ≤ 60) (hm : m ≤ 60) {p : Prop} [Decidable p] (h : a ∈ xs ↔ p) : cmpR .NotIn (.p a) (.p (.lst xs)) μ f = f (!decide p) := by
  simp only [cmpR, v_onP_p, cmpP, inP_good hx ha hn hm h, Option.map_some]
theorem mem_ints {i : Int} {xs : List Int} : P.int i ∈ xs.map P.int ↔ i ∈ xs := by
  rw [List.mem_map]
  constructor
  · rintro ⟨j, h, e⟩
    cases e
    exact h
  · exact fun h => ⟨i, h, rfl⟩
theorem goods_ints {n : Nat} {xs : List Int} : goods n (xs.map .int) = true := goods_map fun x _ => by simp [good]
theorem v_in_li {α : Type} {μ : Mu} {f : Bool → Out α} {i : Int} {xs : List Int} : cmpR .In (.p (.int i)) (.p (.lst (xs.map .int))) μ f = f (decide (i ∈ xs)) := v_in (n := 0) (m := 0) goods_ints (by simp [good]) (by decide) (by decide) mem_ints
theorem li_inj {a b : List Int} : P.lst (a.map .int) = .lst (b.map .int) ↔ a = b := by
  constructor
  · intro h
    injection h with h
    exact int_inj.mp h
  · intro h
    rw [h]
theorem v_eq_li {α : Type} {μ : Mu} {f : Bool → Out α} {a b : List Int} : cmpR .Eq (.p (.lst (a.map .int))) (.p (.lst (b.map .int))) μ f = f (decide (a = b)) := v_eqg good_li good_li li_inj
theorem v_ne_li {α : Type} {μ : Mu} {f : Bool → Out α} {a b : List Int} : cmpR .NotEq (.p (.lst (a.map .int))) (.p (.lst (b.map .int))) μ f = f (!decide (a = b)) := v_neg_ good_li good_li li_inj
theorem v_cutf {a : List Int} {k : Int} (h : 0 ≤ k) (h2 : k ≤ a.length) : slcP (.tup (a.map .int)) (some k) none = some (.p (.tup ((a.drop k.toNat).map .int))) := by
  have e := cut_from (xs := a.map P.int) (k := k.toNat) (by rw [List.length_map]; omega)
  rw [Int.toNat_of_nonneg h] at e
  simp only [slcP, e, List.map_drop]
theorem v_cuto {a : List Int} {k : Int} (h : 0 ≤ k) (h2 : k ≤ a.length) : slcP (.tup (a.map .int)) none (some k) = some (.p (.tup ((a.take k.toNat).map .int))) := by
  have e := cut_to (xs := a.map P.int) (k := k.toNat) (by rw [List.length_map]; omega)
  rw [Int.toNat_of_nonneg h] at e
  simp only [slcP, e, List.map_take]
theorem gi_drop {a : List Int} {k : Nat} {p : Int} (h : 0 ≤ p) : gi (a.drop k) p = gi a (k + p) := by
  unfold gi
  rw [List.getD_eq_getElem?_getD, List.getD_eq_getElem?_getD, List.getElem?_drop]
  have : ((k : Int) + p).toNat = k + p.toNat := by omega
  rw [this]
theorem mem_gi {a : List Int} {x : Int} (h : x ∈ a) : ∃ p : Int, 0 ≤ p ∧ p < a.length ∧ gi a p = x := by
  obtain ⟨i, hi, e⟩ := List.getElem_of_mem h
  refine ⟨i, by omega, by omega, ?_⟩
  unfold gi
  rw [Int.toNat_natCast, List.getD_eq_getElem?_getD, List.getElem?_eq_getElem hi]
  exact e
end R
namespace R
open PySem
/-- a loop that gathers -/
theorem forL_acc {α : Type} {body : P → Env → Mu → Out Fl} {g : α → P} {G : α → List P} {N : Nat} (st : List P → Env → Mu → Prop) : ∀ (xs : List α) (F : List P), (F ++ xs.flatMap G).length ≤ N →
    (∀ x ∈ xs, ∀ F ρ μ, st F ρ μ → (F ++ G x).length ≤ N → ∃ ρ' μ', body (g x) ρ μ = .ok (.nx ρ') μ' ∧ st (F ++ G x) ρ' μ') →
    ∀ ρ μ, st F ρ μ → ∃ ρ' μ', forL body (xs.map g) ρ μ = .ok (.nx ρ') μ' ∧ st (F ++ xs.flatMap G) ρ' μ'
  | [], F, _, _, ρ, μ, h => ⟨ρ, μ, rfl, by simpa using h⟩
  | x :: xs, F, hN, hs, ρ, μ, h => by
    have e : F ++ (x :: xs).flatMap G = (F ++ G x) ++ xs.flatMap G := by rw [List.flatMap_cons, List.append_assoc]
    rw [e] at hN ⊢
    have h1 : (F ++ G x).length ≤ N := Nat.le_trans (by rw [List.length_append (bs := xs.flatMap G)]; omega) hN
    obtain ⟨ρ1, μ1, e1, q1⟩ := hs x (by simp) F ρ μ h h1
    obtain ⟨ρ2, μ2, e2, q2⟩ := forL_acc st xs (F ++ G x) hN (fun y hy => hs y (List.mem_cons_of_mem _ hy)) ρ1 μ1 q1
    exact ⟨ρ2, μ2, by simp only [List.map_cons, forL, e1, Out.bind_ok, thenF, e2], q2⟩
/-! ### plays -/
abbrev Play := List (Int × Int)
abbrev Bd := List Int × List Int
abbrev PRow := Play × Bd
def encS (s : Int × Int) : P := .tup [.int s.1, .int s.2]
def encP (s : Play) : P := .tup (s.map encS)
def encB (b : Bd) : P := bd b.1 b.2
def encR (r : PRow) : P := .tup [encP r.1, encB r.2]
theorem encS_inj {s t : Int × Int} : encS s = encS t ↔ s = t := by
  constructor
  · intro h
    injection h with h
    injection h with h1 h2
    injection h2 with h2 _
    injection h1 with h1
    injection h2 with h2
    exact Prod.ext h1 h2
  · intro h; rw [h]
theorem map_inj_of {α β : Type} {f : α → β} (h : ∀ x y, f x = f y → x = y) {xs ys : List α} : xs.map f = ys.map f ↔ xs = ys :=
  ⟨fun e => (List.map_inj_right (f := f) fun x y e => h x y e).mp e, fun e => by rw [e]⟩
theorem encP_inj {s t : Play} : encP s = encP t ↔ s = t := by
  constructor
  · intro h
    injection h with h
    exact (map_inj_of fun x y e => encS_inj.mp e).mp h
  · intro h; rw [h]
theorem encB_inj {b c : Bd} : encB b = encB c ↔ b = c := by
  constructor
  · intro h
    obtain ⟨h1, h2⟩ := bd_inj.mp h
    exact Prod.ext h1 h2
  · intro h; rw [h]
theorem encR_inj {r t : PRow} : encR r = encR t ↔ r = t := by
  constructor
  · intro h
    injection h with h
    injection h with h1 h2
    injection h2 with h2 _
    exact Prod.ext (encP_inj.mp h1) (encB_inj.mp h2)
  · intro h; rw [h]
theorem good_encS {n : Nat} {s : Int × Int} : good (n + 1) (encS s) = true := by simp [encS, good, goods]
theorem good_encP {n : Nat} {s : Play} : good (n + 2) (encP s) = true := by
  show goods (n + 1) (s.map encS) = true
  exact goods_map fun x _ => good_encS
theorem good_encB {n : Nat} {b : Bd} : good (n + 2) (encB b) = true := good_bd
theorem good_encR {n : Nat} {r : PRow} : good (n + 3) (encR r) = true := by
  show (good (n + 2) (encP r.1) && (good (n + 2) (encB r.2) && true)) = true
  rw [good_encP, good_encB]
  rfl
/-- a list as a call or a display gives it -/
def IsL (r : Rv) (xs : List P) : Prop := r = .p (.lst xs) ∨ r = .n xs
theorem IsL.sto {r : Rv} {xs : List P} (h : IsL r xs) (μ : Mu) : stoR false r μ = (.p (.lst xs), μ) := by
  rcases h with rfl | rfl <;> rfl
theorem IsL.frz {r : Rv} {xs : List P} (h : IsL r xs) (μ : Mu) : frzO r μ = .ok (.lst xs) μ := by
  rcases h with rfl | rfl <;> rfl
end R
namespace R
open PySem
section
variable {scr xs : List Int} {μ : Mu}
theorem v_sl {i : Int} (h : 0 ≤ i) (h2 : i < xs.length) : idxR scr (.p (.lst (xs.map .int))) (.p (.int i)) μ = .ok (.p (.int (gi xs i))) μ := by
  refine v_idx_l ?_
  rw [at_map, at_gi h h2]
  rfl
theorem v_lcutf {k : Int} (h : 0 ≤ k) (h2 : k ≤ xs.length) : slcP (.lst (xs.map .int)) (some k) none = some (.n ((xs.drop k.toNat).map .int)) := by
  have e := cut_from (xs := xs.map P.int) (k := k.toNat) (by rw [List.length_map]; omega)
  rw [Int.toNat_of_nonneg h] at e
  simp only [slcP, e, List.map_drop]
theorem v_lcuto {k : Int} (h : 0 ≤ k) (h2 : k ≤ xs.length) : slcP (.lst (xs.map .int)) none (some k) = some (.n ((xs.take k.toNat).map .int)) := by
  have e := cut_to (xs := xs.map P.int) (k := k.toNat) (by rw [List.length_map]; omega)
  rw [Int.toNat_of_nonneg h] at e
  simp only [slcP, e, List.map_take]
theorem v_notin_n {α : Type} {f : Bool → Out α} {i : Int} : cmpR .NotIn (.p (.int i)) (.n (xs.map .int)) μ f = f (!decide (i ∈ xs)) := by
  simp only [cmpR, v_onP_p, v_onP_n, cmpP, inP_good (n := 0) (m := 0) goods_ints (by simp [good]) (by decide) (by decide) mem_ints, Option.map_some]
end
theorem v_ne_nilR {α : Type} {rs : List PRow} {μ : Mu} {f : Bool → Out α} : cmpR .NotEq (.p (.lst (rs.map encR))) (.n []) μ f = f (!decide (rs = [])) :=
  v_cmpN rfl rfl (eqP_good (n := 4) (m := 1) (by show goods 3 (rs.map encR) = true; exact goods_map fun x _ => good_encR) (by simp [good, goods]) (by decide) (by decide) (by cases rs <;> simp))
end R
namespace R
open PySem
/-- a loop that carries a state -/
theorem forL_fold {α σ : Type} {body : P → Env → Mu → Out Fl} {g : α → P} (st : σ → Env → Mu → Prop) (step : σ → α → σ) : ∀ (xs : List α) (s : σ),
    (∀ x ∈ xs, ∀ s ρ μ, st s ρ μ → ∃ ρ' μ', body (g x) ρ μ = .ok (.nx ρ') μ' ∧ st (step s x) ρ' μ') →
    ∀ ρ μ, st s ρ μ → ∃ ρ' μ', forL body (xs.map g) ρ μ = .ok (.nx ρ') μ' ∧ st (xs.foldl step s) ρ' μ'
  | [], s, _, ρ, μ, h => ⟨ρ, μ, rfl, h⟩
  | x :: xs, s, hs, ρ, μ, h => by
    obtain ⟨ρ1, μ1, e1, q1⟩ := hs x (by simp) s ρ μ h
    obtain ⟨ρ2, μ2, e2, q2⟩ := forL_fold st step xs (step s x) (fun y hy => hs y (List.mem_cons_of_mem _ hy)) ρ1 μ1 q1
    exact ⟨ρ2, μ2, by simp only [List.map_cons, forL, e1, Out.bind_ok, thenF, e2], q2⟩
theorem any_ids {α : Type} {c : α → Bool} {xs : List α} : (xs.map c).any id = xs.any c := by
  rw [List.any_map]; rfl
theorem v_anyl {α : Type} {c : α → Bool} {xs : List α} : biP .any [.lst (xs.map fun x => P.bl (c x))] = some (.p (.bl (xs.any c))) := by
  rw [v_any (blsOf_map c xs), any_ids]
theorem v_alll {α : Type} {c : α → Bool} {xs : List α} : biP .all [.lst (xs.map fun x => P.bl (c x))] = some (.p (.bl (xs.all c))) := by
  rw [v_all (blsOf_map c xs), List.all_map]
  rfl
abbrev refd (w : Str) : P := .tup [.str "refused", .str w]
theorem good_refd {w : Str} (h : PyData.strOk w = true) : good 2 (refd w) = true := by
  have : PyData.strOk "refused" = true := by decide +kernel
  simp [good, goods, h, this]
theorem eq_refd {w : Str} (h : PyData.strOk w = true) {α : Type} {μ : Mu} {f : Bool → Out α} : cmpR .Eq (.p (refd w)) (.p (refd w)) μ f = f true := (v_eqg (p := True) (good_mono (by decide) (good_refd h)) (good_mono (by decide) (good_refd h)) (by simp)).trans (by simp)
theorem ne_refd {w : Str} (h : PyData.strOk w = true) {α : Type} {μ : Mu} {f : Bool → Out α} : cmpR .NotEq (.p (refd w)) (.p (refd w)) μ f = f false := (v_neg_ (p := True) (good_mono (by decide) (good_refd h)) (good_mono (by decide) (good_refd h)) (by simp)).trans (by simp)
theorem eq_refds {w : Str} (h : PyData.strOk w = true) {n : Nat} {α : Type} {μ : Mu} {f : Bool → Out α} : cmpR .Eq (.p (.lst (List.replicate n (refd w)))) (.n (List.replicate n (refd w))) μ f = f true := by
  have g : good 3 (.lst (List.replicate n (refd w))) = true := by
    show goods 2 (List.replicate n (refd w)) = true
    induction n with
    | zero => rfl
    | succ n ih =>
      rw [List.replicate_succ]
      show (good 2 (refd w) && goods 2 (List.replicate n (refd w))) = true
      rw [good_refd h, ih]
      rfl
  exact v_cmpE (k := true) rfl rfl ((eqP_good (p := True) g g (by decide) (by decide) (by simp)).trans (by simp))
theorem ne_refds {w : Str} (h : PyData.strOk w = true) {n : Nat} {α : Type} {μ : Mu} {f : Bool → Out α} : cmpR .NotEq (.p (.lst (List.replicate n (refd w)))) (.n (List.replicate n (refd w))) μ f = f false := by
  have g : good 3 (.lst (List.replicate n (refd w))) = true := by
    show goods 2 (List.replicate n (refd w)) = true
    induction n with
    | zero => rfl
    | succ n ih =>
      rw [List.replicate_succ]
      show (good 2 (refd w) && goods 2 (List.replicate n (refd w))) = true
      rw [good_refd h, ih]
      rfl
  exact v_cmpN (k := true) rfl rfl ((eqP_good (p := True) g g (by decide) (by decide) (by simp)).trans (by simp))
theorem mul_refds {w : Str} {n : Nat} (h : n ≤ 1000) : binP .Mult (.lst [refd w]) (.int (n : Int)) = some (.n (List.replicate n (refd w))) := by
  rw [v_mull (by show 1 * n ≤ 1000000; omega) (by omega)]
  congr 2
  induction n with
  | zero => rfl
  | succ n ih => rw [List.replicate_succ, List.flatten_cons, ih (by omega), List.replicate_succ]; rfl
end R

set_option Elab.async false
set_option linter.all false
set_option maxRecDepth 100000
set_option maxHeartbeats 1000000
/-! # R18: reading rules for texts: a text by its signs -/
namespace R
open PySem
abbrev tx (l : List Nat) : Str := SX.S l
abbrev pt (l : List Nat) : P := .str (tx l)
theorem l_sp : Str.ofString " " = tx [32] := by decide +kernel
theorem l_col : Str.ofString ":" = tx [58] := by decide +kernel
theorem l_pipe : Str.ofString "|" = tx [124] := by decide +kernel
theorem l_sep : Str.ofString " | " = tx [32, 124, 32] := by decide +kernel
theorem l_bar : Str.ofString "bar" = tx [98, 97, 114] := by decide +kernel
theorem l_off : Str.ofString "off" = tx [111, 102, 102] := by decide +kernel
theorem l_0 : Str.ofString "0" = tx [48] := by decide +kernel
theorem l_fig : Str.ofString "0123456789" = tx [48, 49, 50, 51, 52, 53, 54, 55, 56, 57] := by decide +kernel
theorem l_e : Str.ofString "" = tx [] := by decide +kernel
theorem tx_inj {a b : List Nat} : tx a = tx b ↔ a = b := ⟨SX.S_inj, fun h => by rw [h]⟩
theorem tx_len {a : List Nat} : (tx a).length = a.length := SX.S_len a
theorem v_addtx {a b : List Nat} (h : a.length + b.length ≤ big) : binP .Add (pt a) (pt b) = some (.p (pt (a ++ b))) := by
  rw [v_adds (by rw [tx_len, tx_len]; exact h), SX.S_cat]
theorem v_lentx {a : List Nat} (h : a.length ≤ big) : biP .len [pt a] = some (.p (.int a.length)) := by
  have h2 : (tx a).length ≤ big := by rw [tx_len]; exact h
  simp only [biP]
  rw [if_pos h2, tx_len]
theorem v_eqtx {α : Type} {a b : List Nat} {μ : Mu} {f : Bool → Out α} : cmpR .Eq (.p (pt a)) (.p (pt b)) μ f = f (decide (a = b)) := by
  rw [v_eqs]
  congr 1
  exact decide_eq_decide.mpr tx_inj
theorem v_netx {α : Type} {a b : List Nat} {μ : Mu} {f : Bool → Out α} : cmpR .NotEq (.p (pt a)) (.p (pt b)) μ f = f (!decide (a = b)) := by
  rw [v_nes]
  congr 2
  exact decide_eq_decide.mpr tx_inj
theorem strsOf_map : ∀ ys : List (List Nat), strsOf (ys.map pt) = some (ys.map tx)
  | [] => rfl
  | y :: ys => by simp only [List.map_cons, strsOf, strsOf_map ys, Option.map_some]
theorem v_join {s : List Nat} {ys : List (List Nat)} (h : (ys.map List.length).sum + s.length * ys.length ≤ big) : meP .join (pt s) [.lst (ys.map pt)] = some (.p (pt (TL.joinL s ys))) := by
  have h2 : ((ys.map tx).map Str.length).sum + (tx s).length * (ys.map tx).length ≤ big := by
    rw [List.length_map, tx_len]
    have : (ys.map tx).map Str.length = ys.map List.length := SX.lens ys
    rw [this]
    exact h
  simp only [meP, strsOf_map, if_pos h2, SX.join_S]
theorem v_split {a b : List Nat} (hb : b ≠ []) (hk : b.all (· < 256) = true) (ha : a.length + 2 ≤ big) : meP .split (pt a) [pt b] = some (.n ((TL.spl b 0 [] a).map pt)) := by
  have h1 : ((tx b).length == 0) = false := by
    rw [tx_len]
    cases b with
    | nil => exact absurd rfl hb
    | cons x l => rfl
  have h2 : (tx a).length + 2 ≤ big := by rw [tx_len]; exact ha
  simp only [meP, if_pos (And.intro h1 h2), SX.split_S hb hk, List.map_map]
  rfl
theorem items_tx {z : List Nat} : itemsP [pt z] = some (z.map fun c => pt [c]) := rfl
theorem v_inone {α : Type} {c : Nat} {z : List Nat} {μ : Mu} {f : Bool → Out α} : cmpR .In (.p (pt [c])) (.p (pt z)) μ f = f (decide (c ∈ z)) := rfl
theorem v_inttx {a : List Nat} (h : a.all (fun c => decide (48 ≤ c) && decide (c ≤ 57)) = true) (hne : a ≠ []) (hl : a.length ≤ 640) : biP .int [pt a] = some (.p (.int ((NumText.digitsVal a : Nat) : Int))) := by
  have h2 : (tx a).length ≤ 640 := by rw [tx_len]; exact hl
  simp only [biP, if_pos h2, SX.int_S h hne (by omega), Option.map_some]
theorem log_s {n : Nat} (h : n < 2 ^ 20) : n.log2 < 1920 := by
  by_cases h0 : n = 0
  · subst h0; decide
  · have := (Nat.log2_lt h0).mpr h
    omega
theorem v_strint {i : Int} (h : 0 ≤ i) (h2 : i < 1000000) : biP .str [.int i] = some (.p (pt (TL.numL i.toNat))) := by
  have l : i.natAbs.log2 < 1920 := log_s (by omega)
  have e : Str.ofString (toString i) = tx (TL.numL i.toNat) := by
    have := SX.num_S i.toNat
    rw [Int.toNat_of_nonneg h] at this
    exact this
  simp only [biP, if_pos l, e]
theorem v_idx0tx {scr : List Int} {c : Nat} {z : List Nat} {μ : Mu} (h : z.length < big) : idxR scr (.p (pt (c :: z))) (.p (.int 0)) μ = .ok (.p (pt [c])) μ := by
  have h2 : (tx (c :: z)).length ≤ big := by rw [tx_len]; exact h
  have e : L2.atI (tx (c :: z)).cps.toList 0 = some c := at_0
  simp only [idxR, v_onP_p, idxP, if_pos h2, e, Option.map_some, v_of]
theorem good_pt {n : Nat} {z : List Nat} (h : z.all (· < 0x110000) = true) : good n (pt z) = true := by
  have : PyData.strOk (tx z) = true := by
    unfold PyData.strOk
    show (tx z).cps.all _ = true
    rw [← Array.all_toList]
    exact h
  cases n <;> simp only [good, this]
/-! ### taken apart and put together -/
theorem spl_join_id {S : List Nat} (hS : S ≠ []) : ∀ (n : Nat) (l acc : List Nat), l.length ≤ n → TL.joinL S (TL.spl S 0 acc l) = acc ++ l
  | _, [], acc, _ => by rw [TL.spl_nil, List.append_nil]; rfl
  | 0, c :: r, _, h => absurd h (by simp)
  | n + 1, c :: r, acc, h => by
    have hne : ∀ (k : Nat) (a l : List Nat), TL.spl S k a l ≠ [] := fun k a l => by
      rw [TL.spl_pass]
      generalize l.drop k = m
      induction m generalizing a with
      | nil => rw [TL.spl_nil]; simp
      | cons d m ih =>
        cases hp : TL.pre S (d :: m) with
        | true => rw [TL.spl_hit hp]; simp
        | false => rw [TL.spl_miss hp]; exact ih _
    cases hp : TL.pre S (c :: r) with
    | true =>
      rw [TL.spl_hit hp, TL.spl_pass]
      have e : (c :: r).take S.length = S := eq_of_beq hp
      have ed : (c :: r) = S ++ r.drop (S.length - 1) := by
        have h1 : (c :: r).drop S.length = r.drop (S.length - 1) := by
          cases S with
          | nil => exact absurd rfl hS
          | cons s S => rfl
        rw [← h1]
        conv => lhs; rw [← List.take_append_drop S.length (c :: r)]
        rw [e]
      have ih := spl_join_id hS n (r.drop (S.length - 1)) [] (by rw [List.length_drop]; simp only [List.length_cons] at h; omega)
      cases hs : TL.spl S 0 [] (r.drop (S.length - 1)) with
      | nil => exact absurd hs (hne _ _ _)
      | cons x xs =>
        rw [hs] at ih
        show acc ++ (S ++ TL.joinL S (x :: xs)) = _
        rw [ih, List.nil_append, ← ed]
    | false =>
      rw [TL.spl_miss hp, spl_join_id hS n r (acc ++ [c]) (by simp only [List.length_cons] at h; omega), List.append_assoc]
      rfl
theorem join_spl {S : List Nat} (hS : S ≠ []) (l : List Nat) : TL.joinL S (TL.spl S 0 [] l) = l := by
  rw [spl_join_id hS l.length l [] (Nat.le_refl _), List.nil_append]
theorem joinL_len {s : List Nat} : ∀ ys : List (List Nat), (TL.joinL s ys).length ≤ (ys.map List.length).sum + s.length * ys.length
  | [] => Nat.zero_le _
  | [y] => by simp [TL.joinL]
  | y :: z :: r => by
    have ih := joinL_len (s := s) (z :: r)
    show (y ++ (s ++ TL.joinL s (z :: r))).length ≤ _
    simp only [List.length_append, List.map_cons, List.sum_cons, List.length_cons, Nat.mul_add, Nat.mul_one] at ih ⊢
    omega
theorem spl_len {S : List Nat} : ∀ (n : Nat) (l acc : List Nat), l.length ≤ n → (TL.spl S 0 acc l).length ≤ l.length + 1
  | _, [], acc, _ => by rw [TL.spl_nil]; simp
  | 0, c :: r, _, h => absurd h (by simp)
  | n + 1, c :: r, acc, h => by
    simp only [List.length_cons] at h
    cases hp : TL.pre S (c :: r) with
    | true =>
      rw [TL.spl_hit hp, TL.spl_pass, List.length_cons]
      have := spl_len (S := S) n (r.drop (S.length - 1)) [] (by rw [List.length_drop]; omega)
      rw [List.length_drop] at this
      simp only [List.length_cons]
      omega
    | false =>
      rw [TL.spl_miss hp]
      have := spl_len (S := S) n r (acc ++ [c]) (by omega)
      simp only [List.length_cons]
      omega
/-- no part holds the separator's one sign -/
theorem spl_free {s : Nat} : ∀ (l acc : List Nat), s ∉ acc → ∀ p ∈ TL.spl [s] 0 acc l, s ∉ p
  | [], acc, ha, p, h => by rw [TL.spl_nil] at h; rw [List.mem_singleton.mp h]; exact ha
  | c :: r, acc, ha, p, h => by
    by_cases e : c = s
    · have hp : TL.pre [s] (c :: r) = true := by rw [e]; exact TL.pre_self [s] r
      rw [TL.spl_hit hp] at h
      rcases List.mem_cons.mp h with rfl | h
      · exact ha
      · exact spl_free r [] (by simp) p h
    · rw [TL.spl_miss (TL.pre_of_head _ _ e)] at h
      exact spl_free r (acc ++ [c]) (by simp only [List.mem_append, List.mem_singleton, not_or]; exact ⟨ha, fun h => e h.symm⟩) p h
end R
namespace R
open PySem
/-- a loop that carries a state, or raises -/
theorem forL_foldO {α σ : Type} {body : P → Env → Mu → Out Fl} {g : α → P} {n : Str} (st : σ → Env → Mu → Prop) (ex : Mu → Prop) (step : σ → α → Option σ) : ∀ (xs : List α) (s : σ),
    (∀ x ∈ xs, ∀ s ρ μ, st s ρ μ → (∀ s', step s x = some s' → ∃ ρ' μ', body (g x) ρ μ = .ok (.nx ρ') μ' ∧ st s' ρ' μ') ∧ (step s x = none → ∃ μ', body (g x) ρ μ = .exc n μ' ∧ ex μ')) →
    ∀ ρ μ, st s ρ μ → (∀ s', xs.foldlM step s = some s' → ∃ ρ' μ', forL body (xs.map g) ρ μ = .ok (.nx ρ') μ' ∧ st s' ρ' μ') ∧ (xs.foldlM step s = none → ∃ μ', forL body (xs.map g) ρ μ = .exc n μ' ∧ ex μ')
  | [], s, _, ρ, μ, h => ⟨fun s' e => by cases e; exact ⟨ρ, μ, rfl, h⟩, fun e => by cases e⟩
  | x :: xs, s, hs, ρ, μ, h => by
    obtain ⟨h1, h2⟩ := hs x (by simp) s ρ μ h
    rw [List.foldlM_cons]
    cases hx : step s x with
    | none =>
      obtain ⟨μ', e, q⟩ := h2 hx
      exact ⟨fun s' e => by simp at e, fun _ => ⟨μ', by simp only [List.map_cons, forL, e, Out.bind_exc], q⟩⟩
    | some s1 =>
      obtain ⟨ρ1, μ1, e1, q1⟩ := h1 s1 hx
      obtain ⟨i1, i2⟩ := forL_foldO st ex step xs s1 (fun y hy => hs y (List.mem_cons_of_mem _ hy)) ρ1 μ1 q1
      refine ⟨fun s' e => ?_, fun e => ?_⟩
      · obtain ⟨ρ2, μ2, e2, q2⟩ := i1 s' (by simpa using e)
        exact ⟨ρ2, μ2, by simp only [List.map_cons, forL, e1, Out.bind_ok, thenF, e2], q2⟩
      · obtain ⟨μ2, e2, q2⟩ := i2 (by simpa using e)
        exact ⟨μ2, by simp only [List.map_cons, forL, e1, Out.bind_ok, thenF, e2], q2⟩
theorem v_in2tx {α : Type} {w a b : List Nat} {μ : Mu} {f : Bool → Out α} : cmpR .In (.p (pt w)) (.p (.tup [pt a, pt b])) μ f = f (decide (w = a ∨ w = b)) := by
  have h : inP (pt w) (.tup [pt a, pt b]) = some (decide (w = a ∨ w = b)) := by
    have e1 : PyData.eqv (.str (tx a)) (.str (tx w)) = decide (a = w) := by
      show (tx a == tx w) = _
      exact SX.S_beq_eq
    have e2 : PyData.eqv (.str (tx b)) (.str (tx w)) = decide (b = w) := by
      show (tx b == tx w) = _
      exact SX.S_beq_eq
    have e3 : inP (pt w) (.tup [pt a, pt b]) = some (PyData.eqv (.str (tx a)) (.str (tx w)) || (PyData.eqv (.str (tx b)) (.str (tx w)) || false)) := rfl
    rw [e3, e1, e2]
    congr 1
    rw [Bool.or_false, ← Bool.decide_or]
    exact decide_eq_decide.mpr ⟨fun h => h.imp Eq.symm Eq.symm, fun h => h.imp Eq.symm Eq.symm⟩
  simp only [cmpR, v_onP_p, cmpP, h]
theorem gi_ext {a b : List Int} {n : Nat} (ha : a.length = n) (hb : b.length = n) (h : ∀ p : Int, 0 ≤ p → p < n → gi a p = gi b p) : a = b := by
  apply List.ext_getElem?
  intro i
  by_cases hi : i < n
  · have := h i (by omega) (by omega)
    unfold gi at this
    rw [Int.toNat_natCast, List.getD_eq_getElem?_getD, List.getD_eq_getElem?_getD, List.getElem?_eq_getElem (by omega), List.getElem?_eq_getElem (by omega)] at this
    rw [List.getElem?_eq_getElem (by omega), List.getElem?_eq_getElem (by omega)]
    exact congrArg some this
  · rw [List.getElem?_eq_none (by omega), List.getElem?_eq_none (by omega)]
/-- nothing before begins the board's separator -/
theorem pre_sep {p q : List Nat} (h : 124 ∉ p) (hq : q = [] ∨ ∃ r, q = 32 :: r) : ∀ i, i < p.length → TL.pre [32, 124, 32] ((p ++ q).drop i) = false := by
  intro i hi
  cases hp : TL.pre [32, 124, 32] ((p ++ q).drop i) with
  | false => rfl
  | true =>
    have e : ((p ++ q).drop i).take 3 = [32, 124, 32] := eq_of_beq hp
    have e1 : ((p ++ q).drop i)[1]? = some 124 := by
      have : (((p ++ q).drop i).take 3)[1]? = some 124 := by rw [e]; rfl
      rw [List.getElem?_take] at this
      simpa using this
    rw [List.getElem?_drop] at e1
    by_cases h1 : i + 1 < p.length
    · rw [List.getElem?_append_left h1] at e1
      exact absurd (List.mem_of_getElem? e1) h
    · rw [List.getElem?_append_right (by omega)] at e1
      have : i + 1 - p.length = 0 := by omega
      rw [this] at e1
      rcases hq with rfl | ⟨r, rfl⟩
      · simp at e1
      · simp at e1
theorem spl_two {p q : List Nat} (hp : 124 ∉ p) (hq : 124 ∉ q) : TL.spl [32, 124, 32] 0 [] (p ++ [32, 124, 32] ++ q) = [p, q] := by
  have h1 := TL.spl_part (S := [32, 124, 32]) (p := p) (rest := q) (acc := []) (by simp) (pre_sep hp (.inr ⟨_, rfl⟩))
  have h2 := TL.spl_last (S := [32, 124, 32]) (p := q) (acc := []) (fun i hi => by
    have := pre_sep (q := []) hq (.inl rfl) i hi
    rw [List.append_nil] at this
    exact this)
  rw [List.append_assoc, h1, h2]
  rfl
theorem spl_word {c : Nat} {p q : List Nat} (hp : c ∉ p) (hq : c ∉ q) : TL.spl [c] 0 [] (p ++ [c] ++ q) = [p, q] := by
  have h1 := TL.spl_part1 (s := c) (S := []) (p := p) (rest := q) (acc := []) hp
  have h2 := TL.spl_last1 (s := c) (S := []) (p := q) (acc := []) hq
  have e : p ++ [c] ++ q = p ++ ([c] ++ q) := List.append_assoc _ _ _
  rw [e]
  exact h1.trans (by rw [h2]; rfl)
end R
namespace R
open PySem
theorem spl_mem {S : List Nat} {c : Nat} : ∀ (n : Nat) (l acc : List Nat), l.length ≤ n → ∀ p ∈ TL.spl S 0 acc l, c ∈ p → c ∈ acc ∨ c ∈ l
  | _, [], acc, _, p, hp, hc => by rw [TL.spl_nil, List.mem_singleton] at hp; rw [hp] at hc; exact .inl hc
  | 0, x :: l, _, h, _, _, _ => absurd h (by simp)
  | n + 1, x :: l, acc, h, p, hp, hc => by
    simp only [List.length_cons] at h
    cases hpre : TL.pre S (x :: l) with
    | true =>
      rw [TL.spl_hit hpre, TL.spl_pass] at hp
      rcases List.mem_cons.mp hp with rfl | hp
      · exact .inl hc
      · rcases spl_mem n (l.drop (S.length - 1)) [] (by rw [List.length_drop]; omega) p hp hc with h1 | h1
        · exact absurd h1 (by simp)
        · exact .inr (List.mem_cons_of_mem _ (List.mem_of_mem_drop h1))
    | false =>
      rw [TL.spl_miss hpre] at hp
      rcases spl_mem n l (acc ++ [x]) (by omega) p hp hc with h1 | h1
      · rcases List.mem_append.mp h1 with h1 | h1
        · exact .inl h1
        · exact .inr (by rw [List.mem_singleton.mp h1]; simp)
      · exact .inr (List.mem_cons_of_mem _ h1)
/-- all signs are plainT -/
def plainT (l : List Nat) : Bool := l.all (· < 256)
theorem plain_spl {S l p : List Nat} (h : plainT l = true) (hp : p ∈ TL.spl S 0 [] l) : plainT p = true := by
  unfold plainT at *
  rw [List.all_eq_true] at *
  intro c hc
  rcases spl_mem l.length l [] (Nat.le_refl _) p hp hc with h1 | h1
  · exact absurd h1 (by simp)
  · exact h c h1
theorem good_plain {n : Nat} {l : List Nat} (h : plainT l = true) : good n (pt l) = true := good_pt (by
  unfold plainT at h
  rw [List.all_eq_true] at *
  intro c hc
  have := of_decide_eq_true (h c hc)
  exact decide_eq_true (by omega))
theorem pt_inj {a b : List Nat} : pt a = pt b ↔ a = b := by
  constructor
  · intro h
    injection h with h
    exact tx_inj.mp h
  · intro h; rw [h]
theorem v_intx {α : Type} {w : List Nat} {ws : List (List Nat)} {μ : Mu} {f : Bool → Out α} (hw : plainT w = true) (hs : ∀ x ∈ ws, plainT x = true) : cmpR .In (.p (pt w)) (.p (.lst (ws.map pt))) μ f = f (decide (w ∈ ws)) :=
  v_in (n := 0) (m := 0) (goods_map fun x hx => good_plain (hs x hx)) (good_plain hw) (by decide) (by decide) (by
    rw [List.mem_map]
    constructor
    · rintro ⟨x, hx, e⟩; rw [← pt_inj.mp e]; exact hx
    · exact fun h => ⟨w, h, rfl⟩)
theorem pyOfs_pt : ∀ ws : List (List Nat), pyOfs (ws.map pt) = some (ws.map fun w => PyData.str (tx w))
  | [] => rfl
  | w :: ws => by simp only [List.map_cons, pyOfs, pyOf, pyOfs_pt ws]
theorem lm_ix {w : List Nat} {ws : List (List Nat)} {k : Nat} (hw : plainT w = true) (hs : ∀ x ∈ ws, plainT x = true) (hk : ws.findIdx? (fun x => decide (x = w)) = some k) : lmP true (.lst (ws.map pt)) (pt w) = some (.p (.int (k : Nat))) := by
  have g1 : good 0 (pt w) = true := good_plain hw
  have g2 : goods 0 (ws.map pt) = true := goods_map fun x hx => good_plain (hs x hx)
  obtain ⟨d, ed, d1, d2⟩ := good_py 0 _ g1
  obtain ⟨ds, ee, e1, e2⟩ := goods_py 0 _ g2
  cases ed
  rw [pyOfs_pt] at ee
  cases ee
  have s1 : SeqAt.shaped (.str (tx w)) = true := by simp [SeqAt.shaped, d1, PyData.depth]
  have s2 : SeqAt.shaped (.list (ws.map fun w => PyData.str (tx w))) = true := by simp [SeqAt.shaped, PyData.canLay0, PyData.depth, e1]; omega
  have e : (ws.map fun w => PyData.str (tx w)).findIdx? (fun z => PyData.eqv z (.str (tx w))) = some k := by
    rw [List.findIdx?_map, ← hk]
    congr 1
    funext x
    show (tx x == tx w) = _
    exact SX.S_beq_eq
  simp only [lmP, pyOf, pyOfs_pt, s1, s2, Bool.and_self, if_true, e, Option.map_some]
theorem cutS_to {l : List Nat} {k : Int} (h : 0 ≤ k) (hl : l.length ≤ big) : slcP (pt l) none (some k) = some (.p (pt (l.take k.toNat))) := by
  have h2 : (tx l).length ≤ big := by rw [tx_len]; exact hl
  have e : L2.cutS (tx l) none (some k) = tx (l.take k.toNat) := by
    have hs := HT.sIx_nat (tx l).length (tx l).length k.toNat
    rw [Int.toNat_of_nonneg h] at hs
    unfold L2.cutS
    rw [HT.sIx_none, hs, List.drop_zero, Nat.sub_zero, tx_len]
    show (⟨(l.take (min k.toNat l.length)).toArray⟩ : Str) = ⟨(l.take k.toNat).toArray⟩
    congr 2
    by_cases hc : k.toNat ≤ l.length
    · rw [Nat.min_eq_left hc]
    · rw [Nat.min_eq_right (by omega), List.take_length, List.take_of_length_le (by omega)]
  simp only [slcP]
  rw [if_pos h2, e]
theorem cutS_from {l : List Nat} {k : Int} (h : 0 ≤ k) (hl : l.length ≤ big) : slcP (pt l) (some k) none = some (.p (pt (l.drop k.toNat))) := by
  have h2 : (tx l).length ≤ big := by rw [tx_len]; exact hl
  have e : L2.cutS (tx l) (some k) none = tx (l.drop k.toNat) := by
    have hs := HT.sIx_nat (tx l).length 0 k.toNat
    rw [Int.toNat_of_nonneg h] at hs
    unfold L2.cutS
    rw [HT.sIx_none, hs, tx_len]
    show (⟨((l.drop (min k.toNat l.length)).take (l.length - min k.toNat l.length)).toArray⟩ : Str) = ⟨(l.drop k.toNat).toArray⟩
    congr 2
    by_cases hc : k.toNat ≤ l.length
    · rw [Nat.min_eq_left hc, List.take_of_length_le (by rw [List.length_drop]; omega)]
    · rw [Nat.min_eq_right (by omega), List.drop_length, List.drop_of_length_le (by omega)]
      simp
  simp only [slcP]
  rw [if_pos h2, e]
theorem joinL_rev_len {s : List Nat} (ys : List (List Nat)) : (TL.joinL s ys.reverse).length = (TL.joinL s ys).length := by
  have key : ∀ ys : List (List Nat), (TL.joinL s ys).length + (if ys = [] then 0 else s.length) = (ys.map List.length).sum + s.length * ys.length := by
    intro ys
    induction ys with
    | nil => rfl
    | cons y r ih =>
      cases r with
      | nil => simp [TL.joinL]
      | cons z r =>
        have e : (TL.joinL s (y :: z :: r)).length = y.length + (s.length + (TL.joinL s (z :: r)).length) := by
          show (y ++ (s ++ TL.joinL s (z :: r))).length = _
          rw [List.length_append, List.length_append]
        simp only [if_neg (List.cons_ne_nil _ _), List.map_cons, List.sum_cons, List.length_cons, Nat.mul_add, Nat.mul_one] at ih ⊢
        omega
  have h1 := key ys
  have h2 := key ys.reverse
  have e : (ys.reverse.map List.length).sum = (ys.map List.length).sum := by
    rw [List.map_reverse, List.sum_reverse]
  rw [e, List.length_reverse] at h2
  by_cases c : ys = []
  · rw [c]; rfl
  · rw [if_neg (by simpa using c)] at h2
    rw [if_neg c] at h1
    omega
end R

set_option maxHeartbeats 1000000
namespace R
open PySem L2
def top (i : Nat) : Stmt := PySem.Challenge.pw_racedice_k02_whole_board_texts.main.body.getD i (.Pass ⟨0, 0, 0, 0⟩)
def s_is_side_0a_0 : S := .ret (.cst (.bl false))
def s_is_side_0 : S := .ife (.boo false [(.cmp .NotEq (.bi .len (.var 0)) (.bin .Add (.glb (Str.ofString "BAR") (.int 25)) (.cst (.int 1)))), (.not (.bi .all (.comp (.cmp .GtE (.var 1) (.cst (.int 0))) false [1] false [(.var 0)] [] [1])))]) [s_is_side_0a_0] []
def s_is_side_1 : S := .ret (.chn .LtE .LtE (.cst (.int 1)) (.bi .sum (.var 0)) (.glb (Str.ofString "MOST_MEN") (.int 15)))
def f_is_side : Fn := ⟨1, 2, [s_is_side_0, s_is_side_1]⟩
def s_look_board_0a_0 : S := .rai (Str.ofString "BadBoard")
def s_look_board_0 : S := .ife (.boo false [(.cmp .NotEq (.bi .len (.var 0)) (.cst (.int 2))), (.not (.call 0 [(.idx (.var 0) (.cst (.int 0)))])), (.not (.call 0 [(.idx (.var 0) (.cst (.int 1)))])), (.cmp .NotEq (.bi .sum (.idx (.var 0) (.cst (.int 0)))) (.bi .sum (.idx (.var 0) (.cst (.int 1)))))]) [s_look_board_0a_0] []
def s_look_board_1_0a_0 : S := .rai (Str.ofString "BadBoard")
def s_look_board_1_0 : S := .ife (.boo true [(.cmp .Gt (.idx (.idx (.var 0) (.cst (.int 0))) (.var 1)) (.cst (.int 0))), (.cmp .Gt (.idx (.idx (.var 0) (.cst (.int 1))) (.bin .Sub (.glb (Str.ofString "BAR") (.int 25)) (.var 1))) (.cst (.int 0)))]) [s_look_board_1_0a_0] []
def s_look_board_1 : S := .fr false [1] true [(.cst (.int 1)), (.glb (Str.ofString "BAR") (.int 25))] [s_look_board_1_0]
def s_look_board_2a_0 : S := .rai (Str.ofString "BadBoard")
def s_look_board_2 : S := .ife (.boo true [(.cmp .Eq (.idx (.idx (.var 0) (.cst (.int 0))) (.glb (Str.ofString "OFF") (.int 0))) (.bi .sum (.idx (.var 0) (.cst (.int 0))))), (.cmp .Eq (.idx (.idx (.var 0) (.cst (.int 1))) (.glb (Str.ofString "OFF") (.int 0))) (.bi .sum (.idx (.var 0) (.cst (.int 1)))))]) [s_look_board_2a_0] []
def f_look_board : Fn := ⟨1, 2, [s_look_board_0, s_look_board_1, s_look_board_2]⟩
def s_place_text_0 : S := .ret (.get (Str.ofString "BAR") 25 (Str.ofString "bar") (Str.ofString "OFF") 0 (Str.ofString "off") (.var 0) (.bi .str (.var 0)))
def f_place_text : Fn := ⟨1, 1, [s_place_text_0]⟩
def s_side_text_0 : S := .asg 1 false (.comp (.bin .Add (.bin .Add (.call 2 [(.var 2)]) (.cst (.str (Str.ofString ":")))) (.bi .str (.idx (.var 0) (.var 2)))) false [2] true [(.glb (Str.ofString "BAR") (.int 25)), (.neg (.cst (.int 1))), (.neg (.cst (.int 1)))] [(.cmp .Gt (.idx (.var 0) (.var 2)) (.cst (.int 0)))] [2])
def s_side_text_1 : S := .ret (.me .join (.cst (.str (Str.ofString " "))) (.var 1))
def f_side_text : Fn := ⟨1, 3, [s_side_text_0, s_side_text_1]⟩
def s_board_text_0 : S := .xpr (.call 1 [(.var 0)])
def s_board_text_1 : S := .ret (.bin .Add (.bin .Add (.call 3 [(.idx (.var 0) (.cst (.int 0)))]) (.cst (.str (Str.ofString " | ")))) (.call 3 [(.idx (.var 0) (.cst (.int 1)))]))
def f_board_text : Fn := ⟨1, 1, [s_board_text_0, s_board_text_1]⟩
def s_number_in_0a_0 : S := .rai (Str.ofString "BadText")
def s_number_in_0 : S := .ife (.boo false [(.not (.chn .LtE .LtE (.cst (.int 1)) (.bi .len (.var 0)) (.cst (.int 2)))), (.not (.bi .all (.comp (.cmp .In (.var 2) (.glb (Str.ofString "FIGURES") (.str (Str.ofString "0123456789")))) false [2] false [(.var 0)] [] [2]))), (.cmp .Eq (.idx (.var 0) (.cst (.int 0))) (.cst (.str (Str.ofString "0"))))]) [s_number_in_0a_0] []
def s_number_in_1a_0 : S := .rai (Str.ofString "BadText")
def s_number_in_1 : S := .ife (.cmp .Gt (.bi .int (.var 0)) (.var 1)) [s_number_in_1a_0] []
def s_number_in_2 : S := .ret (.bi .int (.var 0))
def f_number_in : Fn := ⟨2, 3, [s_number_in_0, s_number_in_1, s_number_in_2]⟩
def s_read_place_0a_0 : S := .ret (.ife (.cmp .Eq (.var 0) (.cst (.str (Str.ofString "bar")))) (.glb (Str.ofString "BAR") (.int 25)) (.glb (Str.ofString "OFF") (.int 0)))
def s_read_place_0 : S := .ife (.cmp .In (.var 0) (.tup [(.cst (.str (Str.ofString "bar"))), (.cst (.str (Str.ofString "off")))])) [s_read_place_0a_0] []
def s_read_place_1 : S := .ret (.call 5 [(.var 0), (.glb (Str.ofString "POINTS") (.int 24))])
def f_read_place : Fn := ⟨1, 1, [s_read_place_0, s_read_place_1]⟩
def s_read_side_0 : S := .asg 1 true (.bin .Mult (.lst [(.cst (.int 0))]) (.bin .Add (.glb (Str.ofString "BAR") (.int 25)) (.cst (.int 1))))
def s_read_side_1 : S := .asg 2 false (.bin .Add (.glb (Str.ofString "BAR") (.int 25)) (.cst (.int 1)))
def s_read_side_2_0 : S := .asg 4 false (.me .split (.var 3) (.cst (.str (Str.ofString ":"))))
def s_read_side_2_1a_0 : S := .rai (Str.ofString "BadText")
def s_read_side_2_1 : S := .ife (.cmp .NotEq (.bi .len (.var 4)) (.cst (.int 2))) [s_read_side_2_1a_0] []
def s_read_side_2_2 : S := .asg 5 false (.call 6 [(.idx (.var 4) (.cst (.int 0)))])
def s_read_side_2_3a_0 : S := .rai (Str.ofString "BadText")
def s_read_side_2_3 : S := .ife (.cmp .GtE (.var 5) (.var 2)) [s_read_side_2_3a_0] []
def s_read_side_2_4 : S := .seti (.var 1) (.var 5) (.call 5 [(.idx (.var 4) (.cst (.int 1))), (.glb (Str.ofString "MOST_MEN") (.int 15))])
def s_read_side_2_5 : S := .asg 2 false (.var 5)
def s_read_side_2 : S := .fr false [3] false [(.me .split (.var 0) (.cst (.str (Str.ofString " "))))] [s_read_side_2_0, s_read_side_2_1, s_read_side_2_2, s_read_side_2_3, s_read_side_2_4, s_read_side_2_5]
def s_read_side_3 : S := .ret (.bi .tuple (.var 1))
def f_read_side : Fn := ⟨1, 6, [s_read_side_0, s_read_side_1, s_read_side_2, s_read_side_3]⟩
def s_read_board_0 : S := .asg 1 false (.me .split (.var 0) (.cst (.str (Str.ofString " | "))))
def s_read_board_1a_0 : S := .rai (Str.ofString "BadText")
def s_read_board_1 : S := .ife (.cmp .NotEq (.bi .len (.var 1)) (.cst (.int 2))) [s_read_board_1a_0] []
def s_read_board_2 : S := .asg 2 false (.tup [(.call 7 [(.idx (.var 1) (.cst (.int 0)))]), (.call 7 [(.idx (.var 1) (.cst (.int 1)))])])
def s_read_board_3 : S := .asg 3 false (.cst (.bl true))
def s_read_board_4_0 : S := .xpr (.call 1 [(.var 2)])
def s_read_board_4 : S := .tryO [s_read_board_4_0] (Str.ofString "BadBoard") 3 (.bl false)
def s_read_board_5a_0 : S := .rai (Str.ofString "BadText")
def s_read_board_5 : S := .ife (.not (.var 3)) [s_read_board_5a_0] []
def s_read_board_6 : S := .ret (.var 2)
def f_read_board : Fn := ⟨1, 4, [s_read_board_0, s_read_board_1, s_read_board_2, s_read_board_3, s_read_board_4, s_read_board_5, s_read_board_6]⟩
def s__law_cell_0a_0 : S := .ret (.idx (.var 0) (.bin .Mod (.var 1) (.bi .len (.var 0))))
def s__law_cell_0 : S := .ife (.var 0) [s__law_cell_0a_0] []
def s__law_cell_1 : S := .ret (.cst (.int 0))
def f__law_cell : Fn := ⟨2, 2, [s__law_cell_0, s__law_cell_1]⟩
def s__law_mix_0 : S := .asg 2 false (.bin .Mod (.bin .Add (.call 9 [(.var 0), (.var 1)]) (.bin .Mult (.cst (.int 104729)) (.bin .Add (.var 1) (.cst (.int 1))))) (.cst (.int 4294967291)))
def s__law_mix_1 : S := .asg 2 false (.bin .Mod (.bin .Pow (.var 2) (.cst (.int 5))) (.cst (.int 4294967279)))
def s__law_mix_2 : S := .ret (.bin .Mod (.bin .Add (.bin .Mult (.bin .FloorDiv (.var 2) (.cst (.int 64))) (.cst (.int 69621))) (.var 2)) (.cst (.int 4294967231)))
def f__law_mix : Fn := ⟨2, 3, [s__law_mix_0, s__law_mix_1, s__law_mix_2]⟩
def s__law_draw_0 : S := .app (.var 1) (.cst (.int 0))
def s__law_draw_1 : S := .ret (.bin .Mod (.bin .FloorDiv (.call 10 [(.var 0), (.bi .len (.var 1))]) (.cst (.int 8))) (.var 2))
def f__law_draw : Fn := ⟨3, 3, [s__law_draw_0, s__law_draw_1]⟩
def s__law_pick_0 : S := .ret (.idx (.var 2) (.call 11 [(.var 0), (.var 1), (.bi .len (.var 2))]))
def f__law_pick : Fn := ⟨3, 3, [s__law_pick_0]⟩
def s__law_refusal_0a_0 : S := .ret (.tup [(.cst (.str (Str.ofString "ok")))])
def s__law_refusal_0 : S := .ife (.cmp .Is (.var 0) (.cst .non)) [s__law_refusal_0a_0] []
def s__law_refusal_1 : S := .asg 1 true (.lst [(.isx (Str.ofString "BadBoard") (.var 0)), (.isx (Str.ofString "BadText") (.var 0)), (.isx (Str.ofString "BadStep") (.var 0))])
def s__law_refusal_2 : S := .asg 1 true (.bin .Add (.var 1) (.lst [(.isx (Str.ofString "BadPlay") (.var 0)), (.isx (Str.ofString "BadRoll") (.var 0)), (.isx (Str.ofString "Over") (.var 0))]))
def s__law_refusal_3 : S := .app (.var 1) (.isx (Str.ofString "TooFar") (.var 0))
def s__law_refusal_4a_0 : S := .ret (.tup [(.cst (.str (Str.ofString "wrong")))])
def s__law_refusal_4 : S := .ife (.boo false [(.cmp .NotEq (.lm false (.var 1) (.cst (.bl true))) (.cst (.int 1))), (.not (.isx (Str.ofString "ValueError") (.var 0)))]) [s__law_refusal_4a_0] []
def s__law_refusal_5 : S := .ret (.tup [(.cst (.str (Str.ofString "refused"))), (.idx (.lst [(.cst (.str (Str.ofString "board"))), (.cst (.str (Str.ofString "text"))), (.cst (.str (Str.ofString "step"))), (.cst (.str (Str.ofString "play"))), (.cst (.str (Str.ofString "roll"))), (.cst (.str (Str.ofString "over"))), (.cst (.str (Str.ofString "far")))]) (.lm true (.var 1) (.cst (.bl true))))])
def f__law_refusal : Fn := ⟨1, 2, [s__law_refusal_0, s__law_refusal_1, s__law_refusal_2, s__law_refusal_3, s__law_refusal_4, s__law_refusal_5]⟩
def s__law_place_0 : S := .asg 2 false (.call 11 [(.var 0), (.var 1), (.cst (.int 12))])
def s__law_place_1a_0 : S := .ret (.bin .Add (.cst (.int 1)) (.call 11 [(.var 0), (.var 1), (.cst (.int 6))]))
def s__law_place_1 : S := .ife (.cmp .Lt (.var 2) (.cst (.int 5))) [s__law_place_1a_0] []
def s__law_place_2a_0 : S := .ret (.bin .Add (.cst (.int 1)) (.call 11 [(.var 0), (.var 1), (.cst (.int 24))]))
def s__law_place_2 : S := .ife (.cmp .Lt (.var 2) (.cst (.int 9))) [s__law_place_2a_0] []
def s__law_place_3 : S := .ret (.idx (.lst [(.cst (.int 25)), (.cst (.int 0)), (.cst (.int 0))]) (.bin .Sub (.var 2) (.cst (.int 9))))
def f__law_place : Fn := ⟨2, 3, [s__law_place_0, s__law_place_1, s__law_place_2, s__law_place_3]⟩
def s__law_board_0 : S := .asg 3 false (.bin .Add (.cst (.int 1)) (.call 11 [(.var 0), (.var 1), (.var 2)]))
def s__law_board_1 : S := .asg 4 true (.bin .Mult (.lst [(.cst (.int 0))]) (.cst (.int 26)))
def s__law_board_2 : S := .asg 5 true (.bin .Mult (.lst [(.cst (.int 0))]) (.cst (.int 26)))
def s__law_board_3_0 : S := .augi .Add (.var 4) (.call 14 [(.var 0), (.var 1)]) (.cst (.int 1))
def s__law_board_3 : S := .fr false [6] true [(.var 3)] [s__law_board_3_0]
def s__law_board_4_0 : S := .asg 7 false (.call 14 [(.var 0), (.var 1)])
def s__law_board_4_1 : S := .asg 8 false (.boo false [(.not (.chn .LtE .LtE (.cst (.int 1)) (.var 7) (.cst (.int 24)))), (.cmp .Eq (.idx (.var 4) (.bin .Sub (.cst (.int 25)) (.var 7))) (.cst (.int 0)))])
def s__law_board_4_2 : S := .augi .Add (.var 5) (.ife (.var 8) (.var 7) (.cst (.int 0))) (.cst (.int 1))
def s__law_board_4 : S := .fr false [6] true [(.var 3)] [s__law_board_4_0, s__law_board_4_1, s__law_board_4_2]
def s__law_board_5a_0 : S := .seti (.var 4) (.cst (.int 0)) (.bin .Sub (.var 3) (.cst (.int 1)))
def s__law_board_5a_1 : S := .seti (.var 4) (.cst (.int 25)) (.cst (.int 1))
def s__law_board_5 : S := .ife (.boo true [(.cmp .Eq (.idx (.var 4) (.cst (.int 0))) (.var 3)), (.cmp .Eq (.idx (.var 5) (.cst (.int 0))) (.var 3))]) [s__law_board_5a_0, s__law_board_5a_1] []
def s__law_board_6 : S := .ret (.tup [(.bi .tuple (.var 4)), (.bi .tuple (.var 5))])
def f__law_board : Fn := ⟨3, 9, [s__law_board_0, s__law_board_1, s__law_board_2, s__law_board_3, s__law_board_4, s__law_board_5, s__law_board_6]⟩
def s__law_is_board_0a_0 : S := .ret (.cst (.bl false))
def s__law_is_board_0 : S := .ife (.boo false [(.cmp .NotEq (.bi .len (.var 0)) (.cst (.int 2))), (.cmp .NotEq (.bi .len (.idx (.var 0) (.cst (.int 0)))) (.cst (.int 26))), (.cmp .NotEq (.bi .len (.idx (.var 0) (.cst (.int 1)))) (.cst (.int 26))), (.cmp .NotEq (.bi .sum (.idx (.var 0) (.cst (.int 0)))) (.bi .sum (.idx (.var 0) (.cst (.int 1)))))]) [s__law_is_board_0a_0] []
def s__law_is_board_1a_0 : S := .ret (.cst (.bl false))
def s__law_is_board_1 : S := .ife (.boo false [(.cmp .Lt (.bi .min1 (.bin .Add (.idx (.var 0) (.cst (.int 0))) (.idx (.var 0) (.cst (.int 1))))) (.cst (.int 0))), (.not (.chn .LtE .LtE (.cst (.int 1)) (.bi .sum (.idx (.var 0) (.cst (.int 0)))) (.cst (.int 15))))]) [s__law_is_board_1a_0] []
def s__law_is_board_2a_0 : S := .ret (.cst (.bl false))
def s__law_is_board_2 : S := .ife (.cmp .NotEq (.comp (.var 1) false [1] true [(.cst (.int 1)), (.cst (.int 25))] [(.cmp .Gt (.bin .Mult (.idx (.idx (.var 0) (.cst (.int 0))) (.var 1)) (.idx (.idx (.var 0) (.cst (.int 1))) (.bin .Sub (.cst (.int 25)) (.var 1)))) (.cst (.int 0)))] [1]) (.lst [])) [s__law_is_board_2a_0] []
def s__law_is_board_3 : S := .ret (.boo false [(.cmp .Lt (.idx (.idx (.var 0) (.cst (.int 0))) (.cst (.int 0))) (.bi .sum (.idx (.var 0) (.cst (.int 0))))), (.cmp .Lt (.idx (.idx (.var 0) (.cst (.int 1))) (.cst (.int 0))) (.bi .sum (.idx (.var 0) (.cst (.int 1)))))])
def f__law_is_board : Fn := ⟨1, 2, [s__law_is_board_0, s__law_is_board_1, s__law_is_board_2, s__law_is_board_3]⟩
def s__law_text_0 : S := .asg 1 true (.lst [])
def s__law_text_1_0 : S := .asg 3 false (.bin .Add (.bin .Add (.lst [(.cst (.str (Str.ofString "off")))]) (.comp (.bi .str (.var 5)) false [5] true [(.cst (.int 1)), (.cst (.int 25))] [] [5])) (.lst [(.cst (.str (Str.ofString "bar")))]))
def s__law_text_1_1 : S := .asg 4 false (.comp (.bin .Add (.bin .Add (.idx (.var 3) (.var 5)) (.cst (.str (Str.ofString ":")))) (.bi .str (.idx (.var 2) (.var 5)))) false [5] true [(.cst (.int 26))] [(.cmp .Gt (.idx (.var 2) (.var 5)) (.cst (.int 0)))] [5])
def s__law_text_1_2 : S := .app (.var 1) (.me .join (.cst (.str (Str.ofString " "))) (.rev (.var 4)))
def s__law_text_1 : S := .fr false [2] false [(.var 0)] [s__law_text_1_0, s__law_text_1_1, s__law_text_1_2]
def s__law_text_2 : S := .ret (.me .join (.cst (.str (Str.ofString " | "))) (.var 1))
def f__law_text : Fn := ⟨1, 6, [s__law_text_0, s__law_text_1, s__law_text_2]⟩
def s__law_board_of_0 : S := .asg 1 true (.lst [])
def s__law_board_of_1 : S := .asg 2 false (.bin .Add (.bin .Add (.lst [(.cst (.str (Str.ofString "off")))]) (.comp (.bi .str (.var 8)) false [8] true [(.cst (.int 1)), (.cst (.int 25))] [] [8])) (.lst [(.cst (.str (Str.ofString "bar")))]))
def s__law_board_of_2_0 : S := .asg 4 true (.bin .Mult (.lst [(.cst (.int 0))]) (.cst (.int 26)))
def s__law_board_of_2_1_0 : S := .asg 6 false (.me .split (.var 5) (.cst (.str (Str.ofString ":"))))
def s__law_board_of_2_1_1a_0 : S := .seti (.var 4) (.lm true (.var 2) (.idx (.var 6) (.cst (.int 0)))) (.bi .int (.idx (.var 6) (.cst (.int 1))))
def s__law_board_of_2_1_1 : S := .ife (.boo true [(.cmp .Eq (.bi .len (.var 6)) (.cst (.int 2))), (.cmp .In (.idx (.var 6) (.cst (.int 0))) (.var 2)), (.cmp .In (.idx (.var 6) (.cst (.int 1))) (.comp (.bi .str (.var 9)) false [9] true [(.cst (.int 1)), (.cst (.int 16))] [] [9]))]) [s__law_board_of_2_1_1a_0] []
def s__law_board_of_2_1 : S := .fr false [5] false [(.me .split (.var 3) (.cst (.str (Str.ofString " "))))] [s__law_board_of_2_1_0, s__law_board_of_2_1_1]
def s__law_board_of_2_2 : S := .app (.var 1) (.bi .tuple (.var 4))
def s__law_board_of_2 : S := .fr false [3] false [(.me .split (.var 0) (.cst (.str (Str.ofString " | "))))] [s__law_board_of_2_0, s__law_board_of_2_1, s__law_board_of_2_2]
def s__law_board_of_3 : S := .asg 7 false (.bi .tuple (.var 1))
def s__law_board_of_4 : S := .ret (.ife (.boo true [(.cmp .Eq (.bi .len (.var 7)) (.cst (.int 2))), (.call 16 [(.var 7)]), (.cmp .Eq (.call 17 [(.var 7)]) (.var 0))]) (.var 7) (.cst .non))
def f__law_board_of : Fn := ⟨1, 10, [s__law_board_of_0, s__law_board_of_1, s__law_board_of_2, s__law_board_of_3, s__law_board_of_4]⟩
def s__law_told_0 : S := .asg 2 false (.cst .non)
def s__law_told_1 : S := .asg 3 false (.cst .non)
def s__law_told_2_0 : S := .asg 3 false (.ife (.cmp .Eq (.var 0) (.cst (.int 0))) (.call 8 [(.var 1)]) (.call 4 [(.var 1)]))
def s__law_told_2 : S := .tryA [s__law_told_2_0] (Str.ofString "RaceError") 4 2
def s__law_told_3 : S := .ret (.ife (.cmp .Is (.var 2) (.cst .non)) (.var 3) (.call 13 [(.var 2)]))
def f__law_told : Fn := ⟨2, 5, [s__law_told_0, s__law_told_1, s__law_told_2, s__law_told_3]⟩
def s_law_0 : S := .asg 1 true (.lst [])
def s_law_1 : S := .asg 2 false (.call 15 [(.var 0), (.var 1), (.cst (.int 15))])
def s_law_2 : S := .asg 3 false (.call 17 [(.var 2)])
def s_law_3a_0 : S := .ret (.cst (.bl false))
def s_law_3 : S := .ife (.boo false [(.cmp .NotEq (.call 19 [(.cst (.int 1)), (.var 2)]) (.var 3)), (.cmp .NotEq (.call 19 [(.cst (.int 0)), (.var 3)]) (.var 2))]) [s_law_3a_0] []
def s_law_4_0 : S := .asg 5 false (.call 11 [(.var 0), (.var 1), (.bin .Add (.bi .len (.var 3)) (.cst (.int 1)))])
def s_law_4_1 : S := .asg 6 false (.call 12 [(.var 0), (.var 1), (.lst [(.cst (.str (Str.ofString " "))), (.cst (.str (Str.ofString ":"))), (.cst (.str (Str.ofString "|"))), (.cst (.str (Str.ofString "0"))), (.cst (.str (Str.ofString "1"))), (.cst (.str (Str.ofString "2"))), (.cst (.str (Str.ofString "6"))), (.cst (.str (Str.ofString "b"))), (.cst (.str (Str.ofString "o"))), (.cst (.str (Str.ofString " | ")))])])
def s_law_4_2 : S := .asg 7 false (.call 11 [(.var 0), (.var 1), (.cst (.int 3))])
def s_law_4_3 : S := .asg 3 false (.bin .Add (.bin .Add (.slc (.var 3) none (some (.var 5))) (.ife (.cmp .Lt (.var 7) (.cst (.int 2))) (.var 6) (.cst (.str (Str.ofString ""))))) (.slc (.var 3) (some (.bin .Add (.var 5) (.bi .int (.cmp .Gt (.var 7) (.cst (.int 0)))))) none))
def s_law_4 : S := .fr false [4] true [(.bin .Add (.cst (.int 1)) (.call 11 [(.var 0), (.var 1), (.cst (.int 2))]))] [s_law_4_0, s_law_4_1, s_law_4_2, s_law_4_3]
def s_law_5a_0 : S := .asg 3 false (.me .join (.cst (.str (Str.ofString " "))) (.rev (.me .split (.var 3) (.cst (.str (Str.ofString " "))))))
def s_law_5 : S := .ife (.cmp .Eq (.call 11 [(.var 0), (.var 1), (.cst (.int 4))]) (.cst (.int 0))) [s_law_5a_0] []
def s_law_6 : S := .asg 8 false (.call 18 [(.var 3)])
def s_law_7a_0 : S := .ret (.cst (.bl false))
def s_law_7 : S := .ife (.cmp .NotEq (.call 19 [(.cst (.int 0)), (.var 3)]) (.ife (.cmp .Is (.var 8) (.cst .non)) (.tup [(.cst (.str (Str.ofString "refused"))), (.cst (.str (Str.ofString "text")))]) (.var 8))) [s_law_7a_0] []
def s_law_8 : S := .asg 9 false (.tup [(.idx (.var 2) (.cst (.int 0))), (.bin .Add (.bi .tuple (.lst [(.bin .Add (.idx (.idx (.var 2) (.cst (.int 1))) (.cst (.int 0))) (.cst (.int 1)))])) (.slc (.idx (.var 2) (.cst (.int 1))) (some (.cst (.int 1))) none))])
def s_law_9 : S := .ret (.cmp .Eq (.call 19 [(.cst (.int 1)), (.var 9)]) (.tup [(.cst (.str (Str.ofString "refused"))), (.cst (.str (Str.ofString "board")))]))
def f_law : Fn := ⟨1, 10, [s_law_0, s_law_1, s_law_2, s_law_3, s_law_4, s_law_5, s_law_6, s_law_7, s_law_8, s_law_9]⟩
def tbl : List Fn := [f_is_side, f_look_board, f_place_text, f_side_text, f_board_text, f_number_in, f_read_place, f_read_side, f_read_board, f__law_cell, f__law_mix, f__law_draw, f__law_pick, f__law_refusal, f__law_place, f__law_board, f__law_is_board, f__law_text, f__law_board_of, f__law_told, f_law]
def d_is_side : DefI := ⟨"is_side", top 15, ["side", "many"], ["side"], f_is_side⟩
def d_look_board : DefI := ⟨"look_board", top 16, ["board", "point"], ["board"], f_look_board⟩
def d_place_text : DefI := ⟨"place_text", top 17, ["point"], ["point"], f_place_text⟩
def d_side_text : DefI := ⟨"side_text", top 18, ["side", "some", "point"], ["side"], f_side_text⟩
def d_board_text : DefI := ⟨"board_text", top 19, ["board"], ["board"], f_board_text⟩
def d_number_in : DefI := ⟨"number_in", top 20, ["word", "most", "sign"], ["word", "most"], f_number_in⟩
def d_read_place : DefI := ⟨"read_place", top 21, ["word"], ["word"], f_read_place⟩
def d_read_side : DefI := ⟨"read_side", top 22, ["text", "side", "last", "word", "parts", "point"], ["text"], f_read_side⟩
def d_read_board : DefI := ⟨"read_board", top 23, ["text", "sides", "board", "good"], ["text"], f_read_board⟩
def d__law_cell : DefI := ⟨"_law_cell", top 25, ["_law_script", "_law_k"], ["_law_script", "_law_k"], f__law_cell⟩
def d__law_mix : DefI := ⟨"_law_mix", top 26, ["_law_script", "_law_k", "_law_number"], ["_law_script", "_law_k"], f__law_mix⟩
def d__law_draw : DefI := ⟨"_law_draw", top 27, ["_law_script", "_law_town", "_law_many"], ["_law_script", "_law_town", "_law_many"], f__law_draw⟩
def d__law_pick : DefI := ⟨"_law_pick", top 28, ["_law_script", "_law_town", "_law_some"], ["_law_script", "_law_town", "_law_some"], f__law_pick⟩
def d__law_refusal : DefI := ⟨"_law_refusal", top 29, ["_law_held", "_law_kinds"], ["_law_held"], f__law_refusal⟩
def d__law_place : DefI := ⟨"_law_place", top 30, ["_law_script", "_law_town", "_law_way"], ["_law_script", "_law_town"], f__law_place⟩
def d__law_board : DefI := ⟨"_law_board", top 31, ["_law_script", "_law_town", "_law_most", "_law_many", "_law_mine", "_law_theirs", "_law_k", "_law_place_here", "_law_free"], ["_law_script", "_law_town", "_law_most"], f__law_board⟩
def d__law_is_board : DefI := ⟨"_law_is_board", top 32, ["_law_board_here", "_law_k"], ["_law_board_here"], f__law_is_board⟩
def d__law_text : DefI := ⟨"_law_text", top 33, ["_law_board_here", "_law_found", "_law_side", "_law_names", "_law_some", "_law_place_here"], ["_law_board_here"], f__law_text⟩
def d__law_board_of : DefI := ⟨"_law_board_of", top 34, ["_law_text_here", "_law_sides", "_law_names", "_law_part", "_law_side", "_law_word", "_law_both", "_law_found", "_law_place_here", "_law_men"], ["_law_text_here"], f__law_board_of⟩
def d__law_told : DefI := ⟨"_law_told", top 35, ["_law_way", "_law_thing", "_law_held", "_law_found", "e"], ["_law_way", "_law_thing"], f__law_told⟩
def d_law : DefI := ⟨"law", top 36, ["_law_script", "_law_town", "_law_board_here", "_law_text_here", "_law_k", "_law_at", "_law_sign", "_law_way", "_law_due", "_law_bad"], ["_law_script"], f_law⟩
abbrev defs : List DefI := [d_is_side, d_look_board, d_place_text, d_side_text, d_board_text, d_number_in, d_read_place, d_read_side, d_read_board, d__law_cell, d__law_mix, d__law_draw, d__law_pick, d__law_refusal, d__law_place, d__law_board, d__law_is_board, d__law_text, d__law_board_of, d__law_told, d_law]
def nm : Nm := ⟨[("is_side", 1), ("look_board", 1), ("place_text", 1), ("side_text", 1), ("board_text", 1), ("number_in", 2), ("read_place", 1), ("read_side", 1), ("read_board", 1), ("_law_cell", 2), ("_law_mix", 2), ("_law_draw", 3), ("_law_pick", 3), ("_law_refusal", 1), ("_law_place", 2), ("_law_board", 3), ("_law_is_board", 1), ("_law_text", 1), ("_law_board_of", 1), ("_law_told", 2), ("law", 1)], [("BAR", (.int 25)), ("OFF", (.int 0)), ("POINTS", (.int 24)), ("MOST_MEN", (.int 15)), ("FIGURES", (.str (Str.ofString "0123456789")))], ["BadBoard", "BadText", "RaceError"]⟩
def raised : List Str := ["BadBoard", "BadText"]
def asked : List Str := ["BadBoard", "RaceError"]
def isas : List Str := ["BadBoard", "BadPlay", "BadRoll", "BadStep", "BadText", "Over", "TooFar", "ValueError"]
theorem chk_is_side : defIs nm d_is_side = true := by decide +kernel
theorem chk_look_board : defIs nm d_look_board = true := by decide +kernel
theorem chk_place_text : defIs nm d_place_text = true := by decide +kernel
theorem chk_side_text : defIs nm d_side_text = true := by decide +kernel
theorem chk_board_text : defIs nm d_board_text = true := by decide +kernel
theorem chk_number_in : defIs nm d_number_in = true := by decide +kernel
theorem chk_read_place : defIs nm d_read_place = true := by decide +kernel
theorem chk_read_side : defIs nm d_read_side = true := by decide +kernel
theorem chk_read_board : defIs nm d_read_board = true := by decide +kernel
theorem chk__law_cell : defIs nm d__law_cell = true := by decide +kernel
theorem chk__law_mix : defIs nm d__law_mix = true := by decide +kernel
theorem chk__law_draw : defIs nm d__law_draw = true := by decide +kernel
theorem chk__law_pick : defIs nm d__law_pick = true := by decide +kernel
theorem chk__law_refusal : defIs nm d__law_refusal = true := by decide +kernel
theorem chk__law_place : defIs nm d__law_place = true := by decide +kernel
theorem chk__law_board : defIs nm d__law_board = true := by decide +kernel
theorem chk__law_is_board : defIs nm d__law_is_board = true := by decide +kernel
theorem chk__law_text : defIs nm d__law_text = true := by decide +kernel
theorem chk__law_board_of : defIs nm d__law_board_of = true := by decide +kernel
theorem chk__law_told : defIs nm d__law_told = true := by decide +kernel
theorem chk_law : defIs nm d_law = true := by decide +kernel
end R
namespace R
open PySem
/-! ### the law's draws -/
abbrev C (ns : List Int) (d : Nat) : Cl := mkCl tbl raised asked isas ns d
def cellV (ns : List Int) (k : Int) : Int := if ns = [] then 0 else ns.getD (k % (ns.length : Int)).toNat 0
theorem fn_cell (ns : List Int) (d : Nat) (k : Int) (μ : Mu) : (C ns (d + 1)).fn 9 [.scr, .p (.int k)] μ = .ok (.p (.int (cellV ns k))) μ := by
  rw [cl_fn (f := f__law_cell) rfl]
  cases ns with
  | nil => simp [f__law_cell, s__law_cell_0a_0, s__law_cell_0, s__law_cell_1, cellV, evFn, v_g0, v_gk, v_s0, v_sk, v_tk, cl_isx, cl_sub, List.append_assoc, List.length_append, evSs, evS, evE, evAs, evFs, evIs, evB, evO, evIf, cl_scr, Out.bind_ok, Out.bind_exc, Out.bind_bad, R.wipe, v_onP_p, v_onP_n, v_onP_o, v_onP_f, v_int, v_bl, v_str, v_data, v_seq, v_obj, v_ix, v_of, v_retT, v_retT_b, v_retT_s, v_retT_l, v_retB, v_retB_b, v_add, v_sub, v_mul, v_mod, v_fdiv, v_pow, v_addl, v_addt, v_adds, v_mull, v_mult, v_lt, v_le, v_gt, v_ge, v_eq, v_ne, v_eqs, v_nes, v_isN, v_isNN, v_ltt, v_binR, v_frz_p, v_frz_n, v_pop_p, v_pop_n, v_sto_p, v_sto_n, v_sto_t, v_sto_o, v_lst, v_tup, v_lenR, v_len_s, v_bi_p, v_bi_n, v_bi_o, v_len_l, v_len_t, v_sum_l, v_sum_t, v_all, v_any, v_min_t, v_max_t, v_min_l, v_max_l, v_list_l, v_list_t, v_tuple_l, v_tuple_t, v_idx_t, v_idx_l, v_idx_n, v_idx_o, v_idx_s, v_tg1, v_app, v_seti, v_thn_n, v_thn_r, v_okB, v_noexc, v_arg_p, v_arg_n, v_arg_o, v_arg_s]
  | cons n ns =>
    have h : 0 < ((n :: ns).length : Int) := by simp
    have h1 := Int.emod_nonneg k (Int.ne_of_gt h)
    have h2 := Int.emod_lt_of_pos k h
    have e : L2.atI (n :: ns) (k % ((n :: ns).length : Int)) = some ((n :: ns).getD (k % ((n :: ns).length : Int)).toNat 0) := by
      unfold L2.atI L2.ixN
      rw [if_pos h1, if_pos h2]
      show (n :: ns)[_]? = _
      rw [List.getD_eq_getElem?_getD, List.getElem?_eq_getElem (by omega)]
      rfl
    simp only [List.length_cons, Int.natCast_add, Int.natCast_one] at e h
    simp [f__law_cell, s__law_cell_0a_0, s__law_cell_0, s__law_cell_1, cellV, evFn, e, h, v_g0, v_gk, v_s0, v_sk, v_tk, cl_isx, cl_sub, List.append_assoc, List.length_append, evSs, evS, evE, evAs, evFs, evIs, evB, evO, evIf, cl_scr, Out.bind_ok, Out.bind_exc, Out.bind_bad, R.wipe, v_onP_p, v_onP_n, v_onP_o, v_onP_f, v_int, v_bl, v_str, v_data, v_seq, v_obj, v_ix, v_of, v_retT, v_retT_b, v_retT_s, v_retT_l, v_retB, v_retB_b, v_add, v_sub, v_mul, v_mod, v_fdiv, v_pow, v_addl, v_addt, v_adds, v_mull, v_mult, v_lt, v_le, v_gt, v_ge, v_eq, v_ne, v_eqs, v_nes, v_isN, v_isNN, v_ltt, v_binR, v_frz_p, v_frz_n, v_pop_p, v_pop_n, v_sto_p, v_sto_n, v_sto_t, v_sto_o, v_lst, v_tup, v_lenR, v_len_s, v_bi_p, v_bi_n, v_bi_o, v_len_l, v_len_t, v_sum_l, v_sum_t, v_all, v_any, v_min_t, v_max_t, v_min_l, v_max_l, v_list_l, v_list_t, v_tuple_l, v_tuple_t, v_idx_t, v_idx_l, v_idx_n, v_idx_o, v_idx_s, v_tg1, v_app, v_seti, v_thn_n, v_thn_r, v_okB, v_noexc, v_arg_p, v_arg_n, v_arg_o, v_arg_s]
theorem log_lt {n k : Nat} (h : n < 2 ^ k) (hk : k < 400000) : n.log2 < 400000 := by
  by_cases h0 : n = 0
  · subst h0; decide
  · have := (Nat.log2_lt h0).mpr h
    omega
def mixV (ns : List Int) (k : Nat) : Int :=
  (((cellV ns k + 104729 * ((k : Int) + 1)) % 4294967291) ^ 5 % 4294967279 / 64 * 69621 + ((cellV ns k + 104729 * ((k : Int) + 1)) % 4294967291) ^ 5 % 4294967279) % 4294967231
theorem fn_mix (ns : List Int) (d : Nat) (k : Nat) (hk : k < 1000) (μ : Mu) : (C ns (d + 2)).fn 10 [.scr, .p (.int k)] μ = .ok (.p (.int (mixV ns k))) μ := by
  rw [cl_fn (f := f__law_mix) rfl]
  unfold mixV
  generalize hx : (cellV ns k + 104729 * ((k : Int) + 1)) % 4294967291 = x
  generalize hy : x ^ 5 % 4294967279 = y
  have hy0 : 0 ≤ y ∧ y < 4294967279 := by omega
  have h1 : x.natAbs < 2 ^ 64 := by omega
  have l1 : Nat.log2 104729 + ((k : Int) + 1).natAbs.log2 < 1000000 := by
    have := log_lt (n := 104729) (k := 20) (by decide) (by decide)
    have := log_lt (n := ((k : Int) + 1).natAbs) (k := 20) (by omega) (by decide)
    omega
  have l2 : (y / 64).natAbs.log2 + Nat.log2 69621 < 1000000 := by
    have := log_lt (n := 69621) (k := 20) (by decide) (by decide)
    have := log_lt (n := (y / 64).natAbs) (k := 40) (by omega) (by decide)
    omega
  have l3 : Nat.log2 64 < 9000 := by decide
  have p5 : binP .Pow (.int x) (.int 5) = some (.p (.int (x ^ 5))) := v_pow (n := 5) h1 (by decide)
  simp [f__law_mix, s__law_mix_0, s__law_mix_1, s__law_mix_2, fn_cell, evFn, hx, p5, hy, l1, l2, l3, v_g0, v_gk, v_s0, v_sk, v_tk, cl_isx, cl_sub, List.append_assoc, List.length_append, evSs, evS, evE, evAs, evFs, evIs, evB, evO, evIf, cl_scr, Out.bind_ok, Out.bind_exc, Out.bind_bad, R.wipe, v_onP_p, v_onP_n, v_onP_o, v_onP_f, v_int, v_bl, v_str, v_data, v_seq, v_obj, v_ix, v_of, v_retT, v_retT_b, v_retT_s, v_retT_l, v_retB, v_retB_b, v_add, v_sub, v_mul, v_mod, v_fdiv, v_pow, v_addl, v_addt, v_adds, v_mull, v_mult, v_lt, v_le, v_gt, v_ge, v_eq, v_ne, v_eqs, v_nes, v_isN, v_isNN, v_ltt, v_binR, v_frz_p, v_frz_n, v_pop_p, v_pop_n, v_sto_p, v_sto_n, v_sto_t, v_sto_o, v_lst, v_tup, v_lenR, v_len_s, v_bi_p, v_bi_n, v_bi_o, v_len_l, v_len_t, v_sum_l, v_sum_t, v_all, v_any, v_min_t, v_max_t, v_min_l, v_max_l, v_list_l, v_list_t, v_tuple_l, v_tuple_t, v_idx_t, v_idx_l, v_idx_n, v_idx_o, v_idx_s, v_tg1, v_app, v_seti, v_thn_n, v_thn_r, v_okB, v_noexc, v_arg_p, v_arg_n, v_arg_o, v_arg_s]
/-- the town behind so many draws -/
def town (t : Nat) : MO := .lst (List.replicate t (.int 0))
/-- a draw, by how many were ahead of it -/
def drawV (ns : List Int) (t : Nat) (n : Int) : Int := mixV ns (t + 1) / 8 % n
theorem drawV_b (ns : List Int) (t : Nat) {n : Int} (h : 0 < n) : 0 ≤ drawV ns t n ∧ drawV ns t n < n := ⟨Int.emod_nonneg _ (by omega), Int.emod_lt_of_pos _ h⟩
theorem fn_draw (ns : List Int) (d : Nat) (t : Nat) (n : Int) (μ : Mu) (hn : 0 < n) (ht : t < 900) : (C ns (d + 3)).fn 11 [.scr, .o 0, .p (.int n)] (town t :: μ) = .ok (.p (.int (drawV ns t n))) (town (t + 1) :: μ) := by
  rw [cl_fn (f := f__law_draw) rfl]
  have e := fn_mix ns d (t + 1) (by omega) (town (t + 1) :: μ)
  have e1 : (List.replicate t (P.int 0) ++ [P.int 0]) = List.replicate (t + 1) (P.int 0) := by rw [List.replicate_succ']
  have hb : t < big := by show t < 1000000; omega
  have l3 : Nat.log2 8 < 9000 := by decide
  simp only [town, Int.natCast_add, Int.natCast_one] at e ⊢
  simp [f__law_draw, s__law_draw_0, s__law_draw_1, evFn, e1, hb, hn, l3, e, drawV, v_g0, v_gk, v_s0, v_sk, v_tk, cl_isx, cl_sub, List.append_assoc, List.length_append, evSs, evS, evE, evAs, evFs, evIs, evB, evO, evIf, cl_scr, Out.bind_ok, Out.bind_exc, Out.bind_bad, R.wipe, v_onP_p, v_onP_n, v_onP_o, v_onP_f, v_int, v_bl, v_str, v_data, v_seq, v_obj, v_ix, v_of, v_retT, v_retT_b, v_retT_s, v_retT_l, v_retB, v_retB_b, v_add, v_sub, v_mul, v_mod, v_fdiv, v_pow, v_addl, v_addt, v_adds, v_mull, v_mult, v_lt, v_le, v_gt, v_ge, v_eq, v_ne, v_eqs, v_nes, v_isN, v_isNN, v_ltt, v_binR, v_frz_p, v_frz_n, v_pop_p, v_pop_n, v_sto_p, v_sto_n, v_sto_t, v_sto_o, v_lst, v_tup, v_lenR, v_len_s, v_bi_p, v_bi_n, v_bi_o, v_len_l, v_len_t, v_sum_l, v_sum_t, v_all, v_any, v_min_t, v_max_t, v_min_l, v_max_l, v_list_l, v_list_t, v_tuple_l, v_tuple_t, v_idx_t, v_idx_l, v_idx_n, v_idx_o, v_idx_s, v_tg1, v_app, v_seti, v_thn_n, v_thn_r, v_okB, v_noexc, v_arg_p, v_arg_n, v_arg_o, v_arg_s]
/-- one of some is picked -/
theorem fn_pick (ns : List Int) (d : Nat) (t : Nat) (xs : List P) (μ : Mu) (hn : 0 < xs.length) (ht : t < 900) : ∃ v, xs[(drawV ns t xs.length).toNat]? = some v ∧ (C ns (d + 4)).fn 12 [.scr, .o 0, .p (.lst xs)] (town t :: μ) = .ok (.p v) (town (t + 1) :: μ) := by
  have e := fn_draw ns d t xs.length μ (by omega) ht
  obtain ⟨h0, h1⟩ := drawV_b ns t (n := xs.length) (by omega)
  generalize drawV ns t xs.length = v at *
  have hv : xs[v.toNat]? = some xs[v.toNat] := List.getElem?_eq_getElem (by omega)
  have ha : L2.atI xs v = some xs[v.toNat] := by
    have := at_nat hv
    rw [Int.toNat_of_nonneg h0] at this
    exact this
  refine ⟨xs[v.toNat], hv, ?_⟩
  rw [cl_fn (f := f__law_pick) rfl]
  simp [f__law_pick, s__law_pick_0, evFn, e, v_idx_l ha, v_g0, v_gk, v_s0, v_sk, v_tk, cl_isx, cl_sub, List.append_assoc, List.length_append, evSs, evS, evE, evAs, evFs, evIs, evB, evO, evIf, cl_scr, Out.bind_ok, Out.bind_exc, Out.bind_bad, R.wipe, v_onP_p, v_onP_n, v_onP_o, v_onP_f, v_int, v_bl, v_str, v_data, v_seq, v_obj, v_ix, v_of, v_retT, v_retT_b, v_retT_s, v_retT_l, v_retB, v_retB_b, v_add, v_sub, v_mul, v_mod, v_fdiv, v_pow, v_addl, v_addt, v_adds, v_mull, v_mult, v_lt, v_le, v_gt, v_ge, v_eq, v_ne, v_eqs, v_nes, v_isN, v_isNN, v_ltt, v_binR, v_frz_p, v_frz_n, v_pop_p, v_pop_n, v_sto_p, v_sto_n, v_sto_t, v_sto_o, v_lst, v_tup, v_lenR, v_len_s, v_bi_p, v_bi_n, v_bi_o, v_len_l, v_len_t, v_sum_l, v_sum_t, v_all, v_any, v_min_t, v_max_t, v_min_l, v_max_l, v_list_l, v_list_t, v_tuple_l, v_tuple_t, v_idx_t, v_idx_l, v_idx_n, v_idx_o, v_idx_s, v_tg1, v_app, v_seti, v_thn_n, v_thn_r, v_okB, v_noexc, v_arg_p, v_arg_n, v_arg_o, v_arg_s]
/-- a place, and how many draws are behind it -/
def placeV (ns : List Int) (t : Nat) : Int × Nat := if drawV ns t 12 < 5 then (1 + drawV ns (t + 1) 6, t + 2) else if drawV ns t 12 < 9 then (1 + drawV ns (t + 1) 24, t + 2) else (if drawV ns t 12 = 9 then 25 else 0, t + 1)
theorem placeV_b (ns : List Int) (t : Nat) : 0 ≤ (placeV ns t).1 ∧ (placeV ns t).1 ≤ 25 ∧ t < (placeV ns t).2 ∧ (placeV ns t).2 ≤ t + 2 := by
  have h6 := drawV_b ns (t + 1) (n := 6) (by decide)
  have h24 := drawV_b ns (t + 1) (n := 24) (by decide)
  unfold placeV
  split
  · refine ⟨?_, ?_, ?_, ?_⟩ <;> simp only <;> omega
  · split
    · refine ⟨?_, ?_, ?_, ?_⟩ <;> simp only <;> omega
    · refine ⟨?_, ?_, ?_, ?_⟩ <;> simp only <;> (try split) <;> omega
theorem fn_place (ns : List Int) (d : Nat) (t : Nat) (μ : Mu) (ht : t < 890) : (C ns (d + 4)).fn 14 [.scr, .o 0] (town t :: μ) = .ok (.p (.int (placeV ns t).1)) (town (placeV ns t).2 :: μ) := by
  rw [cl_fn (f := f__law_place) rfl]
  have e := fn_draw ns d t 12 μ (by decide) (by omega)
  have e6 := fn_draw ns d (t + 1) 6 μ (by decide) (by omega)
  have e24 := fn_draw ns d (t + 1) 24 μ (by decide) (by omega)
  have hb := drawV_b ns t (n := 12) (by decide)
  have b3 : (3 : Nat) ≤ big := by decide
  unfold placeV
  by_cases h5 : drawV ns t 12 < 5
  · have d5 : decide (drawV ns t 12 < 5) = true := decide_eq_true h5
    rw [if_pos h5]
    simp only [f__law_place, s__law_place_0, s__law_place_1a_0, s__law_place_1, s__law_place_2a_0, s__law_place_2, s__law_place_3, evFn, e, e6, d5, List.length_map, ups_len, downs_len, Int.cast_ofNat_Int, List.take_length, Nat.add_assoc, big, v_ix0, v_ix1, v_ix2, v_ix3, v_il0, v_il1, v_in0, v_in1, v_in2, v_tg2, v_sum_ti, v_sum_li, v_len_ti, v_eq_nil, v_ne_nil, v_eq_sd, v_ne_sd, tx_inj, v_in_li, v_eq_li, v_ne_li, v_eq_bd, v_ne_bd, eq_self, and_self, or_self, Int.reduceAdd, Int.reduceSub, Int.reduceMul, Int.reduceNeg, Int.reduceLT, Int.reduceLE, Int.reduceEq, Int.reduceNe, Nat.reduceLeDiff, Nat.reduceLT, decide_true, decide_false, Bool.not_not, ite_true, ite_false, Bool.true_eq_false, Bool.false_eq_true, Bool.and_true, Bool.true_and, Bool.and_false, Bool.false_and, Bool.or_true, Bool.true_or, Bool.or_false, Bool.false_or, Bool.false_eq_true, if_false, if_true, reduceIte, List.getElem?_cons_zero, List.getElem?_cons_succ, List.set_cons_zero, List.set_cons_succ, List.map_cons, List.map_nil, List.length_cons, List.length_nil, List.cons_append, List.nil_append, List.replicate_succ, List.replicate_zero, Nat.reduceAdd, Nat.reduceSub, Bool.not_true, Bool.not_false, decide_true, decide_false, Option.map_some, List.take_succ_cons, List.take_zero, v_g0, v_gk, v_s0, v_sk, v_tk, cl_isx, cl_sub, List.append_assoc, List.length_append, evSs, evS, evE, evAs, evFs, evIs, evB, evO, evIf, cl_scr, Out.bind_ok, Out.bind_exc, Out.bind_bad, R.wipe, v_onP_p, v_onP_n, v_onP_o, v_onP_f, v_int, v_bl, v_str, v_data, v_seq, v_obj, v_ix, v_of, v_retT, v_retT_b, v_retT_s, v_retT_l, v_retB, v_retB_b, v_add, v_sub, v_mul, v_mod, v_fdiv, v_pow, v_addl, v_addt, v_adds, v_mull, v_mult, v_lt, v_le, v_gt, v_ge, v_eq, v_ne, v_eqs, v_nes, v_isN, v_isNN, v_ltt, v_binR, v_frz_p, v_frz_n, v_pop_p, v_pop_n, v_sto_p, v_sto_n, v_sto_t, v_sto_o, v_lst, v_tup, v_lenR, v_len_s, v_bi_p, v_bi_n, v_bi_o, v_len_l, v_len_t, v_sum_l, v_sum_t, v_all, v_any, v_min_t, v_max_t, v_min_l, v_max_l, v_list_l, v_list_t, v_tuple_l, v_tuple_t, v_idx_t, v_idx_l, v_idx_n, v_idx_o, v_idx_s, v_tg1, v_app, v_seti, v_thn_n, v_thn_r, v_okB, v_noexc, v_arg_p, v_arg_n, v_arg_o, v_arg_s]
  · have d5 : decide (drawV ns t 12 < 5) = false := decide_eq_false h5
    rw [if_neg h5]
    by_cases h9 : drawV ns t 12 < 9
    · have d9 : decide (drawV ns t 12 < 9) = true := decide_eq_true h9
      rw [if_pos h9]
      simp only [f__law_place, s__law_place_0, s__law_place_1a_0, s__law_place_1, s__law_place_2a_0, s__law_place_2, s__law_place_3, evFn, e, e24, d5, d9, List.length_map, ups_len, downs_len, Int.cast_ofNat_Int, List.take_length, Nat.add_assoc, big, v_ix0, v_ix1, v_ix2, v_ix3, v_il0, v_il1, v_in0, v_in1, v_in2, v_tg2, v_sum_ti, v_sum_li, v_len_ti, v_eq_nil, v_ne_nil, v_eq_sd, v_ne_sd, tx_inj, v_in_li, v_eq_li, v_ne_li, v_eq_bd, v_ne_bd, eq_self, and_self, or_self, Int.reduceAdd, Int.reduceSub, Int.reduceMul, Int.reduceNeg, Int.reduceLT, Int.reduceLE, Int.reduceEq, Int.reduceNe, Nat.reduceLeDiff, Nat.reduceLT, decide_true, decide_false, Bool.not_not, ite_true, ite_false, Bool.true_eq_false, Bool.false_eq_true, Bool.and_true, Bool.true_and, Bool.and_false, Bool.false_and, Bool.or_true, Bool.true_or, Bool.or_false, Bool.false_or, Bool.false_eq_true, if_false, if_true, reduceIte, List.getElem?_cons_zero, List.getElem?_cons_succ, List.set_cons_zero, List.set_cons_succ, List.map_cons, List.map_nil, List.length_cons, List.length_nil, List.cons_append, List.nil_append, List.replicate_succ, List.replicate_zero, Nat.reduceAdd, Nat.reduceSub, Bool.not_true, Bool.not_false, decide_true, decide_false, Option.map_some, List.take_succ_cons, List.take_zero, v_g0, v_gk, v_s0, v_sk, v_tk, cl_isx, cl_sub, List.append_assoc, List.length_append, evSs, evS, evE, evAs, evFs, evIs, evB, evO, evIf, cl_scr, Out.bind_ok, Out.bind_exc, Out.bind_bad, R.wipe, v_onP_p, v_onP_n, v_onP_o, v_onP_f, v_int, v_bl, v_str, v_data, v_seq, v_obj, v_ix, v_of, v_retT, v_retT_b, v_retT_s, v_retT_l, v_retB, v_retB_b, v_add, v_sub, v_mul, v_mod, v_fdiv, v_pow, v_addl, v_addt, v_adds, v_mull, v_mult, v_lt, v_le, v_gt, v_ge, v_eq, v_ne, v_eqs, v_nes, v_isN, v_isNN, v_ltt, v_binR, v_frz_p, v_frz_n, v_pop_p, v_pop_n, v_sto_p, v_sto_n, v_sto_t, v_sto_o, v_lst, v_tup, v_lenR, v_len_s, v_bi_p, v_bi_n, v_bi_o, v_len_l, v_len_t, v_sum_l, v_sum_t, v_all, v_any, v_min_t, v_max_t, v_min_l, v_max_l, v_list_l, v_list_t, v_tuple_l, v_tuple_t, v_idx_t, v_idx_l, v_idx_n, v_idx_o, v_idx_s, v_tg1, v_app, v_seti, v_thn_n, v_thn_r, v_okB, v_noexc, v_arg_p, v_arg_n, v_arg_o, v_arg_s]
    · have d9 : decide (drawV ns t 12 < 9) = false := decide_eq_false h9
      rw [if_neg h9]
      have hx : L2.atI [P.int 25, .int 0, .int 0] (drawV ns t 12 - 9) = some (.int (if drawV ns t 12 = 9 then 25 else 0)) := by
        have hc : drawV ns t 12 = 9 ∨ drawV ns t 12 = 10 ∨ drawV ns t 12 = 11 := by omega
        rcases hc with h | h | h <;> rw [h] <;> rfl
      simp only [f__law_place, s__law_place_0, s__law_place_1a_0, s__law_place_1, s__law_place_2a_0, s__law_place_2, s__law_place_3, evFn, e, d5, d9, b3, v_idx_n hx, List.length_map, ups_len, downs_len, Int.cast_ofNat_Int, List.take_length, Nat.add_assoc, big, v_ix0, v_ix1, v_ix2, v_ix3, v_il0, v_il1, v_in0, v_in1, v_in2, v_tg2, v_sum_ti, v_sum_li, v_len_ti, v_eq_nil, v_ne_nil, v_eq_sd, v_ne_sd, tx_inj, v_in_li, v_eq_li, v_ne_li, v_eq_bd, v_ne_bd, eq_self, and_self, or_self, Int.reduceAdd, Int.reduceSub, Int.reduceMul, Int.reduceNeg, Int.reduceLT, Int.reduceLE, Int.reduceEq, Int.reduceNe, Nat.reduceLeDiff, Nat.reduceLT, decide_true, decide_false, Bool.not_not, ite_true, ite_false, Bool.true_eq_false, Bool.false_eq_true, Bool.and_true, Bool.true_and, Bool.and_false, Bool.false_and, Bool.or_true, Bool.true_or, Bool.or_false, Bool.false_or, Bool.false_eq_true, if_false, if_true, reduceIte, List.getElem?_cons_zero, List.getElem?_cons_succ, List.set_cons_zero, List.set_cons_succ, List.map_cons, List.map_nil, List.length_cons, List.length_nil, List.cons_append, List.nil_append, List.replicate_succ, List.replicate_zero, Nat.reduceAdd, Nat.reduceSub, Bool.not_true, Bool.not_false, decide_true, decide_false, Option.map_some, List.take_succ_cons, List.take_zero, v_g0, v_gk, v_s0, v_sk, v_tk, cl_isx, cl_sub, List.append_assoc, List.length_append, evSs, evS, evE, evAs, evFs, evIs, evB, evO, evIf, cl_scr, Out.bind_ok, Out.bind_exc, Out.bind_bad, R.wipe, v_onP_p, v_onP_n, v_onP_o, v_onP_f, v_int, v_bl, v_str, v_data, v_seq, v_obj, v_ix, v_of, v_retT, v_retT_b, v_retT_s, v_retT_l, v_retB, v_retB_b, v_add, v_sub, v_mul, v_mod, v_fdiv, v_pow, v_addl, v_addt, v_adds, v_mull, v_mult, v_lt, v_le, v_gt, v_ge, v_eq, v_ne, v_eqs, v_nes, v_isN, v_isNN, v_ltt, v_binR, v_frz_p, v_frz_n, v_pop_p, v_pop_n, v_sto_p, v_sto_n, v_sto_t, v_sto_o, v_lst, v_tup, v_lenR, v_len_s, v_bi_p, v_bi_n, v_bi_o, v_len_l, v_len_t, v_sum_l, v_sum_t, v_all, v_any, v_min_t, v_max_t, v_min_l, v_max_l, v_list_l, v_list_t, v_tuple_l, v_tuple_t, v_idx_t, v_idx_l, v_idx_n, v_idx_o, v_idx_s, v_tg1, v_app, v_seti, v_thn_n, v_thn_r, v_okB, v_noexc, v_arg_p, v_arg_n, v_arg_o, v_arg_s]
/-! ### what a refusal is told as -/
theorem fn_refusal (ns : List Int) (d : Nat) (n : Str) (k : Nat) (w : Str) (h : (n, k, w) ∈ ([("BadBoard", 0, "board"), ("BadText", 1, "text"), ("BadStep", 2, "step"), ("BadPlay", 3, "play"), ("BadRoll", 4, "roll"), ("Over", 5, "over"), ("TooFar", 6, "far")] : List (Str × Nat × Str))) (hr : raised.contains n = true) (μ : Mu) : (C ns (d + 1)).fn 13 [.p (.exc n)] μ = .ok (.p (.tup [.str "refused", .str w])) μ := by
  rw [cl_fn (f := f__law_refusal) rfl]
  have b1 : (3 : Nat) ≤ big := by decide
  have b2 : (7 : Nat) ≤ big := by decide
  have b3 : (6 : Nat) < big := by decide
  have b4 : (2 : Nat) ≤ big := by decide
  have b5 : (3 : Nat) + 3 ≤ big := by decide
  have i : ∀ c : Str, isas.contains c = true → subN raised isas n c = some (n == c || c == ("RaceError" : Str) || c == ("ValueError" : Str)) := fun c hc => by
    unfold subN
    rw [hr, hc]
    rfl
  have i1 := i "BadBoard" (by decide +kernel)
  have i2 := i "BadText" (by decide +kernel)
  have i3 := i "BadStep" (by decide +kernel)
  have i4 := i "BadPlay" (by decide +kernel)
  have i5 := i "BadRoll" (by decide +kernel)
  have i6 := i "Over" (by decide +kernel)
  have i7 := i "TooFar" (by decide +kernel)
  have i8 := i "ValueError" (by decide +kernel)
  have q8 : ∀ m : Str, (m == ("ValueError" : Str) || ("ValueError" : Str) == ("RaceError" : Str) || ("ValueError" : Str) == ("ValueError" : Str)) = true := fun m => by
    have e : (("ValueError" : Str) == ("ValueError" : Str)) = true := by decide +kernel
    rw [e, Bool.or_true]
  simp only [q8] at i8
  simp only [List.mem_cons, Prod.mk.injEq, List.not_mem_nil, or_false] at h
  rcases h with ⟨rfl, rfl, rfl⟩ | ⟨rfl, rfl, rfl⟩ | ⟨rfl, rfl, rfl⟩ | ⟨rfl, rfl, rfl⟩ | ⟨rfl, rfl, rfl⟩ | ⟨rfl, rfl, rfl⟩ | ⟨rfl, rfl, rfl⟩
  · replace i1 : subN raised isas "BadBoard" "BadBoard" = some true := i1.trans (by decide +kernel)
    replace i2 : subN raised isas "BadBoard" "BadText" = some false := i2.trans (by decide +kernel)
    replace i3 : subN raised isas "BadBoard" "BadStep" = some false := i3.trans (by decide +kernel)
    replace i4 : subN raised isas "BadBoard" "BadPlay" = some false := i4.trans (by decide +kernel)
    replace i5 : subN raised isas "BadBoard" "BadRoll" = some false := i5.trans (by decide +kernel)
    replace i6 : subN raised isas "BadBoard" "Over" = some false := i6.trans (by decide +kernel)
    replace i7 : subN raised isas "BadBoard" "TooFar" = some false := i7.trans (by decide +kernel)
    have c1 : lmP false (.lst [.bl true, .bl false, .bl false, .bl false, .bl false, .bl false, .bl false]) (.bl true) = some (.p (.int 1)) := by rfl
    have c2 : lmP true (.lst [.bl true, .bl false, .bl false, .bl false, .bl false, .bl false, .bl false]) (.bl true) = some (.p (.int 0)) := by rfl
    have a0 : L2.atI [P.str "board", .str "text", .str "step", .str "play", .str "roll", .str "over", .str "far"] 0 = some (P.str "board") := rfl
    simp [f__law_refusal, s__law_refusal_0a_0, s__law_refusal_0, s__law_refusal_1, s__law_refusal_2, s__law_refusal_3, s__law_refusal_4a_0, s__law_refusal_4, s__law_refusal_5, evFn, v_isx, i1, i2, i3, i4, i5, i6, i7, i8, c1, c2, b1, b2, b3, b4, b5, a0, v_idx_n, v_g0, v_gk, v_s0, v_sk, v_tk, cl_isx, cl_sub, List.append_assoc, List.length_append, evSs, evS, evE, evAs, evFs, evIs, evB, evO, evIf, cl_scr, Out.bind_ok, Out.bind_exc, Out.bind_bad, R.wipe, v_onP_p, v_onP_n, v_onP_o, v_onP_f, v_int, v_bl, v_str, v_data, v_seq, v_obj, v_ix, v_of, v_retT, v_retT_b, v_retT_s, v_retT_l, v_retB, v_retB_b, v_add, v_sub, v_mul, v_mod, v_fdiv, v_pow, v_addl, v_addt, v_adds, v_mull, v_mult, v_lt, v_le, v_gt, v_ge, v_eq, v_ne, v_eqs, v_nes, v_isN, v_isNN, v_ltt, v_binR, v_frz_p, v_frz_n, v_pop_p, v_pop_n, v_sto_p, v_sto_n, v_sto_t, v_sto_o, v_lst, v_tup, v_lenR, v_len_s, v_bi_p, v_bi_n, v_bi_o, v_len_l, v_len_t, v_sum_l, v_sum_t, v_all, v_any, v_min_t, v_max_t, v_min_l, v_max_l, v_list_l, v_list_t, v_tuple_l, v_tuple_t, v_idx_t, v_idx_l, v_idx_n, v_idx_o, v_idx_s, v_tg1, v_app, v_seti, v_thn_n, v_thn_r, v_okB, v_noexc, v_arg_p, v_arg_n, v_arg_o, v_arg_s]
  · replace i1 : subN raised isas "BadText" "BadBoard" = some false := i1.trans (by decide +kernel)
    replace i2 : subN raised isas "BadText" "BadText" = some true := i2.trans (by decide +kernel)
    replace i3 : subN raised isas "BadText" "BadStep" = some false := i3.trans (by decide +kernel)
    replace i4 : subN raised isas "BadText" "BadPlay" = some false := i4.trans (by decide +kernel)
    replace i5 : subN raised isas "BadText" "BadRoll" = some false := i5.trans (by decide +kernel)
    replace i6 : subN raised isas "BadText" "Over" = some false := i6.trans (by decide +kernel)
    replace i7 : subN raised isas "BadText" "TooFar" = some false := i7.trans (by decide +kernel)
    have c1 : lmP false (.lst [.bl false, .bl true, .bl false, .bl false, .bl false, .bl false, .bl false]) (.bl true) = some (.p (.int 1)) := by rfl
    have c2 : lmP true (.lst [.bl false, .bl true, .bl false, .bl false, .bl false, .bl false, .bl false]) (.bl true) = some (.p (.int 1)) := by rfl
    have a0 : L2.atI [P.str "board", .str "text", .str "step", .str "play", .str "roll", .str "over", .str "far"] 1 = some (P.str "text") := rfl
    simp [f__law_refusal, s__law_refusal_0a_0, s__law_refusal_0, s__law_refusal_1, s__law_refusal_2, s__law_refusal_3, s__law_refusal_4a_0, s__law_refusal_4, s__law_refusal_5, evFn, v_isx, i1, i2, i3, i4, i5, i6, i7, i8, c1, c2, b1, b2, b3, b4, b5, a0, v_idx_n, v_g0, v_gk, v_s0, v_sk, v_tk, cl_isx, cl_sub, List.append_assoc, List.length_append, evSs, evS, evE, evAs, evFs, evIs, evB, evO, evIf, cl_scr, Out.bind_ok, Out.bind_exc, Out.bind_bad, R.wipe, v_onP_p, v_onP_n, v_onP_o, v_onP_f, v_int, v_bl, v_str, v_data, v_seq, v_obj, v_ix, v_of, v_retT, v_retT_b, v_retT_s, v_retT_l, v_retB, v_retB_b, v_add, v_sub, v_mul, v_mod, v_fdiv, v_pow, v_addl, v_addt, v_adds, v_mull, v_mult, v_lt, v_le, v_gt, v_ge, v_eq, v_ne, v_eqs, v_nes, v_isN, v_isNN, v_ltt, v_binR, v_frz_p, v_frz_n, v_pop_p, v_pop_n, v_sto_p, v_sto_n, v_sto_t, v_sto_o, v_lst, v_tup, v_lenR, v_len_s, v_bi_p, v_bi_n, v_bi_o, v_len_l, v_len_t, v_sum_l, v_sum_t, v_all, v_any, v_min_t, v_max_t, v_min_l, v_max_l, v_list_l, v_list_t, v_tuple_l, v_tuple_t, v_idx_t, v_idx_l, v_idx_n, v_idx_o, v_idx_s, v_tg1, v_app, v_seti, v_thn_n, v_thn_r, v_okB, v_noexc, v_arg_p, v_arg_n, v_arg_o, v_arg_s]
  · replace i1 : subN raised isas "BadStep" "BadBoard" = some false := i1.trans (by decide +kernel)
    replace i2 : subN raised isas "BadStep" "BadText" = some false := i2.trans (by decide +kernel)
    replace i3 : subN raised isas "BadStep" "BadStep" = some true := i3.trans (by decide +kernel)
    replace i4 : subN raised isas "BadStep" "BadPlay" = some false := i4.trans (by decide +kernel)
    replace i5 : subN raised isas "BadStep" "BadRoll" = some false := i5.trans (by decide +kernel)
    replace i6 : subN raised isas "BadStep" "Over" = some false := i6.trans (by decide +kernel)
    replace i7 : subN raised isas "BadStep" "TooFar" = some false := i7.trans (by decide +kernel)
    have c1 : lmP false (.lst [.bl false, .bl false, .bl true, .bl false, .bl false, .bl false, .bl false]) (.bl true) = some (.p (.int 1)) := by rfl
    have c2 : lmP true (.lst [.bl false, .bl false, .bl true, .bl false, .bl false, .bl false, .bl false]) (.bl true) = some (.p (.int 2)) := by rfl
    have a0 : L2.atI [P.str "board", .str "text", .str "step", .str "play", .str "roll", .str "over", .str "far"] 2 = some (P.str "step") := rfl
    simp [f__law_refusal, s__law_refusal_0a_0, s__law_refusal_0, s__law_refusal_1, s__law_refusal_2, s__law_refusal_3, s__law_refusal_4a_0, s__law_refusal_4, s__law_refusal_5, evFn, v_isx, i1, i2, i3, i4, i5, i6, i7, i8, c1, c2, b1, b2, b3, b4, b5, a0, v_idx_n, v_g0, v_gk, v_s0, v_sk, v_tk, cl_isx, cl_sub, List.append_assoc, List.length_append, evSs, evS, evE, evAs, evFs, evIs, evB, evO, evIf, cl_scr, Out.bind_ok, Out.bind_exc, Out.bind_bad, R.wipe, v_onP_p, v_onP_n, v_onP_o, v_onP_f, v_int, v_bl, v_str, v_data, v_seq, v_obj, v_ix, v_of, v_retT, v_retT_b, v_retT_s, v_retT_l, v_retB, v_retB_b, v_add, v_sub, v_mul, v_mod, v_fdiv, v_pow, v_addl, v_addt, v_adds, v_mull, v_mult, v_lt, v_le, v_gt, v_ge, v_eq, v_ne, v_eqs, v_nes, v_isN, v_isNN, v_ltt, v_binR, v_frz_p, v_frz_n, v_pop_p, v_pop_n, v_sto_p, v_sto_n, v_sto_t, v_sto_o, v_lst, v_tup, v_lenR, v_len_s, v_bi_p, v_bi_n, v_bi_o, v_len_l, v_len_t, v_sum_l, v_sum_t, v_all, v_any, v_min_t, v_max_t, v_min_l, v_max_l, v_list_l, v_list_t, v_tuple_l, v_tuple_t, v_idx_t, v_idx_l, v_idx_n, v_idx_o, v_idx_s, v_tg1, v_app, v_seti, v_thn_n, v_thn_r, v_okB, v_noexc, v_arg_p, v_arg_n, v_arg_o, v_arg_s]
  · replace i1 : subN raised isas "BadPlay" "BadBoard" = some false := i1.trans (by decide +kernel)
    replace i2 : subN raised isas "BadPlay" "BadText" = some false := i2.trans (by decide +kernel)
    replace i3 : subN raised isas "BadPlay" "BadStep" = some false := i3.trans (by decide +kernel)
    replace i4 : subN raised isas "BadPlay" "BadPlay" = some true := i4.trans (by decide +kernel)
    replace i5 : subN raised isas "BadPlay" "BadRoll" = some false := i5.trans (by decide +kernel)
    replace i6 : subN raised isas "BadPlay" "Over" = some false := i6.trans (by decide +kernel)
    replace i7 : subN raised isas "BadPlay" "TooFar" = some false := i7.trans (by decide +kernel)
    have c1 : lmP false (.lst [.bl false, .bl false, .bl false, .bl true, .bl false, .bl false, .bl false]) (.bl true) = some (.p (.int 1)) := by rfl
    have c2 : lmP true (.lst [.bl false, .bl false, .bl false, .bl true, .bl false, .bl false, .bl false]) (.bl true) = some (.p (.int 3)) := by rfl
    have a0 : L2.atI [P.str "board", .str "text", .str "step", .str "play", .str "roll", .str "over", .str "far"] 3 = some (P.str "play") := rfl
    simp [f__law_refusal, s__law_refusal_0a_0, s__law_refusal_0, s__law_refusal_1, s__law_refusal_2, s__law_refusal_3, s__law_refusal_4a_0, s__law_refusal_4, s__law_refusal_5, evFn, v_isx, i1, i2, i3, i4, i5, i6, i7, i8, c1, c2, b1, b2, b3, b4, b5, a0, v_idx_n, v_g0, v_gk, v_s0, v_sk, v_tk, cl_isx, cl_sub, List.append_assoc, List.length_append, evSs, evS, evE, evAs, evFs, evIs, evB, evO, evIf, cl_scr, Out.bind_ok, Out.bind_exc, Out.bind_bad, R.wipe, v_onP_p, v_onP_n, v_onP_o, v_onP_f, v_int, v_bl, v_str, v_data, v_seq, v_obj, v_ix, v_of, v_retT, v_retT_b, v_retT_s, v_retT_l, v_retB, v_retB_b, v_add, v_sub, v_mul, v_mod, v_fdiv, v_pow, v_addl, v_addt, v_adds, v_mull, v_mult, v_lt, v_le, v_gt, v_ge, v_eq, v_ne, v_eqs, v_nes, v_isN, v_isNN, v_ltt, v_binR, v_frz_p, v_frz_n, v_pop_p, v_pop_n, v_sto_p, v_sto_n, v_sto_t, v_sto_o, v_lst, v_tup, v_lenR, v_len_s, v_bi_p, v_bi_n, v_bi_o, v_len_l, v_len_t, v_sum_l, v_sum_t, v_all, v_any, v_min_t, v_max_t, v_min_l, v_max_l, v_list_l, v_list_t, v_tuple_l, v_tuple_t, v_idx_t, v_idx_l, v_idx_n, v_idx_o, v_idx_s, v_tg1, v_app, v_seti, v_thn_n, v_thn_r, v_okB, v_noexc, v_arg_p, v_arg_n, v_arg_o, v_arg_s]
  · replace i1 : subN raised isas "BadRoll" "BadBoard" = some false := i1.trans (by decide +kernel)
    replace i2 : subN raised isas "BadRoll" "BadText" = some false := i2.trans (by decide +kernel)
    replace i3 : subN raised isas "BadRoll" "BadStep" = some false := i3.trans (by decide +kernel)
    replace i4 : subN raised isas "BadRoll" "BadPlay" = some false := i4.trans (by decide +kernel)
    replace i5 : subN raised isas "BadRoll" "BadRoll" = some true := i5.trans (by decide +kernel)
    replace i6 : subN raised isas "BadRoll" "Over" = some false := i6.trans (by decide +kernel)
    replace i7 : subN raised isas "BadRoll" "TooFar" = some false := i7.trans (by decide +kernel)
    have c1 : lmP false (.lst [.bl false, .bl false, .bl false, .bl false, .bl true, .bl false, .bl false]) (.bl true) = some (.p (.int 1)) := by rfl
    have c2 : lmP true (.lst [.bl false, .bl false, .bl false, .bl false, .bl true, .bl false, .bl false]) (.bl true) = some (.p (.int 4)) := by rfl
    have a0 : L2.atI [P.str "board", .str "text", .str "step", .str "play", .str "roll", .str "over", .str "far"] 4 = some (P.str "roll") := rfl
    simp [f__law_refusal, s__law_refusal_0a_0, s__law_refusal_0, s__law_refusal_1, s__law_refusal_2, s__law_refusal_3, s__law_refusal_4a_0, s__law_refusal_4, s__law_refusal_5, evFn, v_isx, i1, i2, i3, i4, i5, i6, i7, i8, c1, c2, b1, b2, b3, b4, b5, a0, v_idx_n, v_g0, v_gk, v_s0, v_sk, v_tk, cl_isx, cl_sub, List.append_assoc, List.length_append, evSs, evS, evE, evAs, evFs, evIs, evB, evO, evIf, cl_scr, Out.bind_ok, Out.bind_exc, Out.bind_bad, R.wipe, v_onP_p, v_onP_n, v_onP_o, v_onP_f, v_int, v_bl, v_str, v_data, v_seq, v_obj, v_ix, v_of, v_retT, v_retT_b, v_retT_s, v_retT_l, v_retB, v_retB_b, v_add, v_sub, v_mul, v_mod, v_fdiv, v_pow, v_addl, v_addt, v_adds, v_mull, v_mult, v_lt, v_le, v_gt, v_ge, v_eq, v_ne, v_eqs, v_nes, v_isN, v_isNN, v_ltt, v_binR, v_frz_p, v_frz_n, v_pop_p, v_pop_n, v_sto_p, v_sto_n, v_sto_t, v_sto_o, v_lst, v_tup, v_lenR, v_len_s, v_bi_p, v_bi_n, v_bi_o, v_len_l, v_len_t, v_sum_l, v_sum_t, v_all, v_any, v_min_t, v_max_t, v_min_l, v_max_l, v_list_l, v_list_t, v_tuple_l, v_tuple_t, v_idx_t, v_idx_l, v_idx_n, v_idx_o, v_idx_s, v_tg1, v_app, v_seti, v_thn_n, v_thn_r, v_okB, v_noexc, v_arg_p, v_arg_n, v_arg_o, v_arg_s]
  · replace i1 : subN raised isas "Over" "BadBoard" = some false := i1.trans (by decide +kernel)
    replace i2 : subN raised isas "Over" "BadText" = some false := i2.trans (by decide +kernel)
    replace i3 : subN raised isas "Over" "BadStep" = some false := i3.trans (by decide +kernel)
    replace i4 : subN raised isas "Over" "BadPlay" = some false := i4.trans (by decide +kernel)
    replace i5 : subN raised isas "Over" "BadRoll" = some false := i5.trans (by decide +kernel)
    replace i6 : subN raised isas "Over" "Over" = some true := i6.trans (by decide +kernel)
    replace i7 : subN raised isas "Over" "TooFar" = some false := i7.trans (by decide +kernel)
    have c1 : lmP false (.lst [.bl false, .bl false, .bl false, .bl false, .bl false, .bl true, .bl false]) (.bl true) = some (.p (.int 1)) := by rfl
    have c2 : lmP true (.lst [.bl false, .bl false, .bl false, .bl false, .bl false, .bl true, .bl false]) (.bl true) = some (.p (.int 5)) := by rfl
    have a0 : L2.atI [P.str "board", .str "text", .str "step", .str "play", .str "roll", .str "over", .str "far"] 5 = some (P.str "over") := rfl
    simp [f__law_refusal, s__law_refusal_0a_0, s__law_refusal_0, s__law_refusal_1, s__law_refusal_2, s__law_refusal_3, s__law_refusal_4a_0, s__law_refusal_4, s__law_refusal_5, evFn, v_isx, i1, i2, i3, i4, i5, i6, i7, i8, c1, c2, b1, b2, b3, b4, b5, a0, v_idx_n, v_g0, v_gk, v_s0, v_sk, v_tk, cl_isx, cl_sub, List.append_assoc, List.length_append, evSs, evS, evE, evAs, evFs, evIs, evB, evO, evIf, cl_scr, Out.bind_ok, Out.bind_exc, Out.bind_bad, R.wipe, v_onP_p, v_onP_n, v_onP_o, v_onP_f, v_int, v_bl, v_str, v_data, v_seq, v_obj, v_ix, v_of, v_retT, v_retT_b, v_retT_s, v_retT_l, v_retB, v_retB_b, v_add, v_sub, v_mul, v_mod, v_fdiv, v_pow, v_addl, v_addt, v_adds, v_mull, v_mult, v_lt, v_le, v_gt, v_ge, v_eq, v_ne, v_eqs, v_nes, v_isN, v_isNN, v_ltt, v_binR, v_frz_p, v_frz_n, v_pop_p, v_pop_n, v_sto_p, v_sto_n, v_sto_t, v_sto_o, v_lst, v_tup, v_lenR, v_len_s, v_bi_p, v_bi_n, v_bi_o, v_len_l, v_len_t, v_sum_l, v_sum_t, v_all, v_any, v_min_t, v_max_t, v_min_l, v_max_l, v_list_l, v_list_t, v_tuple_l, v_tuple_t, v_idx_t, v_idx_l, v_idx_n, v_idx_o, v_idx_s, v_tg1, v_app, v_seti, v_thn_n, v_thn_r, v_okB, v_noexc, v_arg_p, v_arg_n, v_arg_o, v_arg_s]
  · replace i1 : subN raised isas "TooFar" "BadBoard" = some false := i1.trans (by decide +kernel)
    replace i2 : subN raised isas "TooFar" "BadText" = some false := i2.trans (by decide +kernel)
    replace i3 : subN raised isas "TooFar" "BadStep" = some false := i3.trans (by decide +kernel)
    replace i4 : subN raised isas "TooFar" "BadPlay" = some false := i4.trans (by decide +kernel)
    replace i5 : subN raised isas "TooFar" "BadRoll" = some false := i5.trans (by decide +kernel)
    replace i6 : subN raised isas "TooFar" "Over" = some false := i6.trans (by decide +kernel)
    replace i7 : subN raised isas "TooFar" "TooFar" = some true := i7.trans (by decide +kernel)
    have c1 : lmP false (.lst [.bl false, .bl false, .bl false, .bl false, .bl false, .bl false, .bl true]) (.bl true) = some (.p (.int 1)) := by rfl
    have c2 : lmP true (.lst [.bl false, .bl false, .bl false, .bl false, .bl false, .bl false, .bl true]) (.bl true) = some (.p (.int 6)) := by rfl
    have a0 : L2.atI [P.str "board", .str "text", .str "step", .str "play", .str "roll", .str "over", .str "far"] 6 = some (P.str "far") := rfl
    simp [f__law_refusal, s__law_refusal_0a_0, s__law_refusal_0, s__law_refusal_1, s__law_refusal_2, s__law_refusal_3, s__law_refusal_4a_0, s__law_refusal_4, s__law_refusal_5, evFn, v_isx, i1, i2, i3, i4, i5, i6, i7, i8, c1, c2, b1, b2, b3, b4, b5, a0, v_idx_n, v_g0, v_gk, v_s0, v_sk, v_tk, cl_isx, cl_sub, List.append_assoc, List.length_append, evSs, evS, evE, evAs, evFs, evIs, evB, evO, evIf, cl_scr, Out.bind_ok, Out.bind_exc, Out.bind_bad, R.wipe, v_onP_p, v_onP_n, v_onP_o, v_onP_f, v_int, v_bl, v_str, v_data, v_seq, v_obj, v_ix, v_of, v_retT, v_retT_b, v_retT_s, v_retT_l, v_retB, v_retB_b, v_add, v_sub, v_mul, v_mod, v_fdiv, v_pow, v_addl, v_addt, v_adds, v_mull, v_mult, v_lt, v_le, v_gt, v_ge, v_eq, v_ne, v_eqs, v_nes, v_isN, v_isNN, v_ltt, v_binR, v_frz_p, v_frz_n, v_pop_p, v_pop_n, v_sto_p, v_sto_n, v_sto_t, v_sto_o, v_lst, v_tup, v_lenR, v_len_s, v_bi_p, v_bi_n, v_bi_o, v_len_l, v_len_t, v_sum_l, v_sum_t, v_all, v_any, v_min_t, v_max_t, v_min_l, v_max_l, v_list_l, v_list_t, v_tuple_l, v_tuple_t, v_idx_t, v_idx_l, v_idx_n, v_idx_o, v_idx_s, v_tg1, v_app, v_seti, v_thn_n, v_thn_r, v_okB, v_noexc, v_arg_p, v_arg_n, v_arg_o, v_arg_s]

end R
namespace R
open PySem
/-! ### boards -/
def isSide (xs : List Int) : Bool := decide (xs.length = 26) && xs.all (fun x => decide (0 ≤ x)) && (decide (1 ≤ xs.sum) && decide (xs.sum ≤ 15))
theorem isSide_iff {xs : List Int} : isSide xs = true ↔ xs.length = 26 ∧ (∀ x ∈ xs, 0 ≤ x) ∧ 1 ≤ xs.sum ∧ xs.sum ≤ 15 := by
  unfold isSide
  simp only [Bool.and_eq_true, decide_eq_true_eq, List.all_eq_true]
  constructor
  · rintro ⟨⟨a, b⟩, c, d⟩; exact ⟨a, b, c, d⟩
  · rintro ⟨a, b, c, d⟩; exact ⟨⟨a, b⟩, c, d⟩
theorem fn_is_side (ns : List Int) (d : Nat) (xs : List Int) (hl : xs.length ≤ 1000) (μ : Mu) : (C ns (d + 1)).fn 0 [.p (.tup (xs.map .int))] μ = .ok (.p (.bl (isSide xs))) μ := by
  rw [cl_fn (f := f_is_side) rfl]
  have hb : (xs.map P.int).length ≤ big := by rw [List.length_map]; exact Nat.le_trans hl (by decide)
  have hi := intsOf_map xs
  have hbl := blsOf_map (fun x : Int => decide (0 ≤ x)) xs
  simp only [f_is_side, s_is_side_0a_0, s_is_side_0, s_is_side_1, evFn, Bool.false_eq_true, if_false, if_true, reduceIte, List.getElem?_cons_zero, List.getElem?_cons_succ, List.set_cons_zero, List.set_cons_succ, List.map_cons, List.map_nil, List.length_cons, List.length_nil, List.cons_append, List.nil_append, List.replicate_succ, List.replicate_zero, Nat.reduceAdd, Nat.reduceSub, Bool.not_true, Bool.not_false, decide_true, decide_false, Option.map_some, List.take_succ_cons, List.take_zero, v_g0, v_gk, v_s0, v_sk, v_tk, cl_isx, cl_sub, List.append_assoc, List.length_append, evSs, evS, evE, evAs, evFs, evIs, evB, evO, evIf, cl_scr, Out.bind_ok, Out.bind_exc, Out.bind_bad, R.wipe, v_onP_p, v_onP_n, v_onP_o, v_onP_f, v_int, v_bl, v_str, v_data, v_seq, v_obj, v_ix, v_of, v_retT, v_retT_b, v_retT_s, v_retT_l, v_retB, v_retB_b, v_add, v_sub, v_mul, v_mod, v_fdiv, v_pow, v_addl, v_addt, v_adds, v_mull, v_mult, v_lt, v_le, v_gt, v_ge, v_eq, v_ne, v_eqs, v_nes, v_isN, v_isNN, v_ltt, v_binR, v_frz_p, v_frz_n, v_pop_p, v_pop_n, v_sto_p, v_sto_n, v_sto_t, v_sto_o, v_lst, v_tup, v_lenR, v_len_s, v_bi_p, v_bi_n, v_bi_o, v_len_l, v_len_t, v_sum_l, v_sum_t, v_all, v_any, v_min_t, v_max_t, v_min_l, v_max_l, v_list_l, v_list_t, v_tuple_l, v_tuple_t, v_idx_t, v_idx_l, v_idx_n, v_idx_o, v_idx_s, v_tg1, v_app, v_seti, v_thn_n, v_thn_r, v_okB, v_noexc, v_arg_p, v_arg_n, v_arg_o, v_arg_s]
  simp only [List.length_map]
  by_cases h26 : (xs.length : Int) = 25 + 1
  · have h26' : xs.length = 26 := by omega
    have hd : (!decide ((xs.length : Int) = 25 + 1)) = false := by rw [decide_eq_true h26]; rfl
    simp only [hd, itemsP, hb, Bool.false_eq_true, if_false, if_true, reduceIte, List.getElem?_cons_zero, List.getElem?_cons_succ, List.set_cons_zero, List.set_cons_succ, List.map_cons, List.map_nil, List.length_cons, List.length_nil, List.cons_append, List.nil_append, List.replicate_succ, List.replicate_zero, Nat.reduceAdd, Nat.reduceSub, Bool.not_true, Bool.not_false, decide_true, decide_false, Option.map_some, List.take_succ_cons, List.take_zero, v_g0, v_gk, v_s0, v_sk, v_tk, cl_isx, cl_sub, List.append_assoc, List.length_append, evSs, evS, evE, evAs, evFs, evIs, evB, evO, evIf, cl_scr, Out.bind_ok, Out.bind_exc, Out.bind_bad, R.wipe, v_onP_p, v_onP_n, v_onP_o, v_onP_f, v_int, v_bl, v_str, v_data, v_seq, v_obj, v_ix, v_of, v_retT, v_retT_b, v_retT_s, v_retT_l, v_retB, v_retB_b, v_add, v_sub, v_mul, v_mod, v_fdiv, v_pow, v_addl, v_addt, v_adds, v_mull, v_mult, v_lt, v_le, v_gt, v_ge, v_eq, v_ne, v_eqs, v_nes, v_isN, v_isNN, v_ltt, v_binR, v_frz_p, v_frz_n, v_pop_p, v_pop_n, v_sto_p, v_sto_n, v_sto_t, v_sto_o, v_lst, v_tup, v_lenR, v_len_s, v_bi_p, v_bi_n, v_bi_o, v_len_l, v_len_t, v_sum_l, v_sum_t, v_all, v_any, v_min_t, v_max_t, v_min_l, v_max_l, v_list_l, v_list_t, v_tuple_l, v_tuple_t, v_idx_t, v_idx_l, v_idx_n, v_idx_o, v_idx_s, v_tg1, v_app, v_seti, v_thn_n, v_thn_r, v_okB, v_noexc, v_arg_p, v_arg_n, v_arg_o, v_arg_s]
    rw [compL_int (f := fun x => .bl (decide (0 ≤ x))) ?hh]
    case hh =>
      intro x _
      simp only [Bool.false_eq_true, if_false, if_true, reduceIte, List.getElem?_cons_zero, List.getElem?_cons_succ, List.set_cons_zero, List.set_cons_succ, List.map_cons, List.map_nil, List.length_cons, List.length_nil, List.cons_append, List.nil_append, List.replicate_succ, List.replicate_zero, Nat.reduceAdd, Nat.reduceSub, Bool.not_true, Bool.not_false, decide_true, decide_false, Option.map_some, List.take_succ_cons, List.take_zero, v_g0, v_gk, v_s0, v_sk, v_tk, cl_isx, cl_sub, List.append_assoc, List.length_append, evSs, evS, evE, evAs, evFs, evIs, evB, evO, evIf, cl_scr, Out.bind_ok, Out.bind_exc, Out.bind_bad, R.wipe, v_onP_p, v_onP_n, v_onP_o, v_onP_f, v_int, v_bl, v_str, v_data, v_seq, v_obj, v_ix, v_of, v_retT, v_retT_b, v_retT_s, v_retT_l, v_retB, v_retB_b, v_add, v_sub, v_mul, v_mod, v_fdiv, v_pow, v_addl, v_addt, v_adds, v_mull, v_mult, v_lt, v_le, v_gt, v_ge, v_eq, v_ne, v_eqs, v_nes, v_isN, v_isNN, v_ltt, v_binR, v_frz_p, v_frz_n, v_pop_p, v_pop_n, v_sto_p, v_sto_n, v_sto_t, v_sto_o, v_lst, v_tup, v_lenR, v_len_s, v_bi_p, v_bi_n, v_bi_o, v_len_l, v_len_t, v_sum_l, v_sum_t, v_all, v_any, v_min_t, v_max_t, v_min_l, v_max_l, v_list_l, v_list_t, v_tuple_l, v_tuple_t, v_idx_t, v_idx_l, v_idx_n, v_idx_o, v_idx_s, v_tg1, v_app, v_seti, v_thn_n, v_thn_r, v_okB, v_noexc, v_arg_p, v_arg_n, v_arg_o, v_arg_s]
    simp only [v_all hbl, v_sum_t hi, Bool.false_eq_true, if_false, if_true, reduceIte, List.getElem?_cons_zero, List.getElem?_cons_succ, List.set_cons_zero, List.set_cons_succ, List.map_cons, List.map_nil, List.length_cons, List.length_nil, List.cons_append, List.nil_append, List.replicate_succ, List.replicate_zero, Nat.reduceAdd, Nat.reduceSub, Bool.not_true, Bool.not_false, decide_true, decide_false, Option.map_some, List.take_succ_cons, List.take_zero, v_g0, v_gk, v_s0, v_sk, v_tk, cl_isx, cl_sub, List.append_assoc, List.length_append, evSs, evS, evE, evAs, evFs, evIs, evB, evO, evIf, cl_scr, Out.bind_ok, Out.bind_exc, Out.bind_bad, R.wipe, v_onP_p, v_onP_n, v_onP_o, v_onP_f, v_int, v_bl, v_str, v_data, v_seq, v_obj, v_ix, v_of, v_retT, v_retT_b, v_retT_s, v_retT_l, v_retB, v_retB_b, v_add, v_sub, v_mul, v_mod, v_fdiv, v_pow, v_addl, v_addt, v_adds, v_mull, v_mult, v_lt, v_le, v_gt, v_ge, v_eq, v_ne, v_eqs, v_nes, v_isN, v_isNN, v_ltt, v_binR, v_frz_p, v_frz_n, v_pop_p, v_pop_n, v_sto_p, v_sto_n, v_sto_t, v_sto_o, v_lst, v_tup, v_lenR, v_len_s, v_bi_p, v_bi_n, v_bi_o, v_len_l, v_len_t, v_sum_l, v_sum_t, v_all, v_any, v_min_t, v_max_t, v_min_l, v_max_l, v_list_l, v_list_t, v_tuple_l, v_tuple_t, v_idx_t, v_idx_l, v_idx_n, v_idx_o, v_idx_s, v_tg1, v_app, v_seti, v_thn_n, v_thn_r, v_okB, v_noexc, v_arg_p, v_arg_n, v_arg_o, v_arg_s]
    have e1 : (xs.map fun x => decide (0 ≤ x)).all id = xs.all fun x => decide (0 ≤ x) := by rw [List.all_map]; rfl
    rw [e1]
    unfold isSide
    rw [decide_eq_true h26']
    cases xs.all fun x => decide (0 ≤ x) with
    | false => simp [v_g0, v_gk, v_s0, v_sk, v_tk, cl_isx, cl_sub, List.append_assoc, List.length_append, evSs, evS, evE, evAs, evFs, evIs, evB, evO, evIf, cl_scr, Out.bind_ok, Out.bind_exc, Out.bind_bad, R.wipe, v_onP_p, v_onP_n, v_onP_o, v_onP_f, v_int, v_bl, v_str, v_data, v_seq, v_obj, v_ix, v_of, v_retT, v_retT_b, v_retT_s, v_retT_l, v_retB, v_retB_b, v_add, v_sub, v_mul, v_mod, v_fdiv, v_pow, v_addl, v_addt, v_adds, v_mull, v_mult, v_lt, v_le, v_gt, v_ge, v_eq, v_ne, v_eqs, v_nes, v_isN, v_isNN, v_ltt, v_binR, v_frz_p, v_frz_n, v_pop_p, v_pop_n, v_sto_p, v_sto_n, v_sto_t, v_sto_o, v_lst, v_tup, v_lenR, v_len_s, v_bi_p, v_bi_n, v_bi_o, v_len_l, v_len_t, v_sum_l, v_sum_t, v_all, v_any, v_min_t, v_max_t, v_min_l, v_max_l, v_list_l, v_list_t, v_tuple_l, v_tuple_t, v_idx_t, v_idx_l, v_idx_n, v_idx_o, v_idx_s, v_tg1, v_app, v_seti, v_thn_n, v_thn_r, v_okB, v_noexc, v_arg_p, v_arg_n, v_arg_o, v_arg_s]
    | true =>
      simp only [Bool.false_eq_true, if_false, if_true, reduceIte, List.getElem?_cons_zero, List.getElem?_cons_succ, List.set_cons_zero, List.set_cons_succ, List.map_cons, List.map_nil, List.length_cons, List.length_nil, List.cons_append, List.nil_append, List.replicate_succ, List.replicate_zero, Nat.reduceAdd, Nat.reduceSub, Bool.not_true, Bool.not_false, decide_true, decide_false, Option.map_some, List.take_succ_cons, List.take_zero, v_g0, v_gk, v_s0, v_sk, v_tk, cl_isx, cl_sub, List.append_assoc, List.length_append, evSs, evS, evE, evAs, evFs, evIs, evB, evO, evIf, cl_scr, Out.bind_ok, Out.bind_exc, Out.bind_bad, R.wipe, v_onP_p, v_onP_n, v_onP_o, v_onP_f, v_int, v_bl, v_str, v_data, v_seq, v_obj, v_ix, v_of, v_retT, v_retT_b, v_retT_s, v_retT_l, v_retB, v_retB_b, v_add, v_sub, v_mul, v_mod, v_fdiv, v_pow, v_addl, v_addt, v_adds, v_mull, v_mult, v_lt, v_le, v_gt, v_ge, v_eq, v_ne, v_eqs, v_nes, v_isN, v_isNN, v_ltt, v_binR, v_frz_p, v_frz_n, v_pop_p, v_pop_n, v_sto_p, v_sto_n, v_sto_t, v_sto_o, v_lst, v_tup, v_lenR, v_len_s, v_bi_p, v_bi_n, v_bi_o, v_len_l, v_len_t, v_sum_l, v_sum_t, v_all, v_any, v_min_t, v_max_t, v_min_l, v_max_l, v_list_l, v_list_t, v_tuple_l, v_tuple_t, v_idx_t, v_idx_l, v_idx_n, v_idx_o, v_idx_s, v_tg1, v_app, v_seti, v_thn_n, v_thn_r, v_okB, v_noexc, v_arg_p, v_arg_n, v_arg_o, v_arg_s]
      by_cases h1 : 1 ≤ xs.sum
      · simp [h1, v_sum_t hi, v_g0, v_gk, v_s0, v_sk, v_tk, cl_isx, cl_sub, List.append_assoc, List.length_append, evSs, evS, evE, evAs, evFs, evIs, evB, evO, evIf, cl_scr, Out.bind_ok, Out.bind_exc, Out.bind_bad, R.wipe, v_onP_p, v_onP_n, v_onP_o, v_onP_f, v_int, v_bl, v_str, v_data, v_seq, v_obj, v_ix, v_of, v_retT, v_retT_b, v_retT_s, v_retT_l, v_retB, v_retB_b, v_add, v_sub, v_mul, v_mod, v_fdiv, v_pow, v_addl, v_addt, v_adds, v_mull, v_mult, v_lt, v_le, v_gt, v_ge, v_eq, v_ne, v_eqs, v_nes, v_isN, v_isNN, v_ltt, v_binR, v_frz_p, v_frz_n, v_pop_p, v_pop_n, v_sto_p, v_sto_n, v_sto_t, v_sto_o, v_lst, v_tup, v_lenR, v_len_s, v_bi_p, v_bi_n, v_bi_o, v_len_l, v_len_t, v_sum_l, v_sum_t, v_all, v_any, v_min_t, v_max_t, v_min_l, v_max_l, v_list_l, v_list_t, v_tuple_l, v_tuple_t, v_idx_t, v_idx_l, v_idx_n, v_idx_o, v_idx_s, v_tg1, v_app, v_seti, v_thn_n, v_thn_r, v_okB, v_noexc, v_arg_p, v_arg_n, v_arg_o, v_arg_s]
      · simp [h1, v_sum_t hi, v_g0, v_gk, v_s0, v_sk, v_tk, cl_isx, cl_sub, List.append_assoc, List.length_append, evSs, evS, evE, evAs, evFs, evIs, evB, evO, evIf, cl_scr, Out.bind_ok, Out.bind_exc, Out.bind_bad, R.wipe, v_onP_p, v_onP_n, v_onP_o, v_onP_f, v_int, v_bl, v_str, v_data, v_seq, v_obj, v_ix, v_of, v_retT, v_retT_b, v_retT_s, v_retT_l, v_retB, v_retB_b, v_add, v_sub, v_mul, v_mod, v_fdiv, v_pow, v_addl, v_addt, v_adds, v_mull, v_mult, v_lt, v_le, v_gt, v_ge, v_eq, v_ne, v_eqs, v_nes, v_isN, v_isNN, v_ltt, v_binR, v_frz_p, v_frz_n, v_pop_p, v_pop_n, v_sto_p, v_sto_n, v_sto_t, v_sto_o, v_lst, v_tup, v_lenR, v_len_s, v_bi_p, v_bi_n, v_bi_o, v_len_l, v_len_t, v_sum_l, v_sum_t, v_all, v_any, v_min_t, v_max_t, v_min_l, v_max_l, v_list_l, v_list_t, v_tuple_l, v_tuple_t, v_idx_t, v_idx_l, v_idx_n, v_idx_o, v_idx_s, v_tg1, v_app, v_seti, v_thn_n, v_thn_r, v_okB, v_noexc, v_arg_p, v_arg_n, v_arg_o, v_arg_s]
  · have h26' : ¬ xs.length = 26 := by omega
    have hd : (!decide ((xs.length : Int) = 25 + 1)) = true := by rw [decide_eq_false h26]; rfl
    have h26n : ¬ (xs.length : Int) = 26 := by omega
    simp [hd, isSide, h26', h26n, v_g0, v_gk, v_s0, v_sk, v_tk, cl_isx, cl_sub, List.append_assoc, List.length_append, evSs, evS, evE, evAs, evFs, evIs, evB, evO, evIf, cl_scr, Out.bind_ok, Out.bind_exc, Out.bind_bad, R.wipe, v_onP_p, v_onP_n, v_onP_o, v_onP_f, v_int, v_bl, v_str, v_data, v_seq, v_obj, v_ix, v_of, v_retT, v_retT_b, v_retT_s, v_retT_l, v_retB, v_retB_b, v_add, v_sub, v_mul, v_mod, v_fdiv, v_pow, v_addl, v_addt, v_adds, v_mull, v_mult, v_lt, v_le, v_gt, v_ge, v_eq, v_ne, v_eqs, v_nes, v_isN, v_isNN, v_ltt, v_binR, v_frz_p, v_frz_n, v_pop_p, v_pop_n, v_sto_p, v_sto_n, v_sto_t, v_sto_o, v_lst, v_tup, v_lenR, v_len_s, v_bi_p, v_bi_n, v_bi_o, v_len_l, v_len_t, v_sum_l, v_sum_t, v_all, v_any, v_min_t, v_max_t, v_min_l, v_max_l, v_list_l, v_list_t, v_tuple_l, v_tuple_t, v_idx_t, v_idx_l, v_idx_n, v_idx_o, v_idx_s, v_tg1, v_app, v_seti, v_thn_n, v_thn_r, v_okB, v_noexc, v_arg_p, v_arg_n, v_arg_o, v_arg_s]
/-- men of both at a point -/
def meet (a b : List Int) (p : Int) : Bool := decide (0 < gi a p) && decide (0 < gi b (25 - p))
def isOver (a b : List Int) : Bool := decide (gi a 0 = a.sum) && decide (gi b 0 = b.sum)
def isBoard (a b : List Int) : Bool := isSide a && (isSide b && (decide (a.sum = b.sum) && (!(ups 1 24).any (meet a b) && !isOver a b)))
theorem fn_look (ns : List Int) (d : Nat) (a b : List Int) (ha : a.length ≤ 1000) (hb : b.length ≤ 1000) (μ : Mu) : (C ns (d + 2)).fn 1 [.p (.tup [.tup (a.map .int), .tup (b.map .int)])] μ = if isBoard a b = true then .ok (.p .non) μ else .exc "BadBoard" μ := by
  rw [cl_fn (f := f_look_board) rfl]
  unfold isBoard
  have sa := fn_is_side ns d a ha μ
  have sb := fn_is_side ns d b hb μ
  have S0 : evS (C ns (d + 1)) s_look_board_0 [some (.p (bd a b)), none] μ = if (isSide a && isSide b && decide (a.sum = b.sum)) = true then .ok (.nx [some (.p (bd a b)), none]) μ else .exc "BadBoard" μ := by
    cases hsa : isSide a with
    | false =>
      simp only [hsa] at sa
      simp only [s_look_board_0, s_look_board_0a_0, sa, List.length_map, ups_len, downs_len, Int.cast_ofNat_Int, List.take_length, Nat.add_assoc, big, v_ix0, v_ix1, v_ix2, v_ix3, v_il0, v_il1, v_in0, v_in1, v_in2, v_tg2, v_sum_ti, v_sum_li, v_len_ti, v_eq_nil, v_ne_nil, v_eq_sd, v_ne_sd, tx_inj, v_in_li, v_eq_li, v_ne_li, v_eq_bd, v_ne_bd, eq_self, and_self, or_self, Int.reduceAdd, Int.reduceSub, Int.reduceMul, Int.reduceNeg, Int.reduceLT, Int.reduceLE, Int.reduceEq, Int.reduceNe, Nat.reduceLeDiff, Nat.reduceLT, decide_true, decide_false, Bool.not_not, ite_true, ite_false, Bool.true_eq_false, Bool.false_eq_true, Bool.and_true, Bool.true_and, Bool.and_false, Bool.false_and, Bool.or_true, Bool.true_or, Bool.or_false, Bool.false_or, Bool.false_eq_true, if_false, if_true, reduceIte, List.getElem?_cons_zero, List.getElem?_cons_succ, List.set_cons_zero, List.set_cons_succ, List.map_cons, List.map_nil, List.length_cons, List.length_nil, List.cons_append, List.nil_append, List.replicate_succ, List.replicate_zero, Nat.reduceAdd, Nat.reduceSub, Bool.not_true, Bool.not_false, decide_true, decide_false, Option.map_some, List.take_succ_cons, List.take_zero, v_g0, v_gk, v_s0, v_sk, v_tk, cl_isx, cl_sub, List.append_assoc, List.length_append, evSs, evS, evE, evAs, evFs, evIs, evB, evO, evIf, cl_scr, Out.bind_ok, Out.bind_exc, Out.bind_bad, R.wipe, v_onP_p, v_onP_n, v_onP_o, v_onP_f, v_int, v_bl, v_str, v_data, v_seq, v_obj, v_ix, v_of, v_retT, v_retT_b, v_retT_s, v_retT_l, v_retB, v_retB_b, v_add, v_sub, v_mul, v_mod, v_fdiv, v_pow, v_addl, v_addt, v_adds, v_mull, v_mult, v_lt, v_le, v_gt, v_ge, v_eq, v_ne, v_eqs, v_nes, v_isN, v_isNN, v_ltt, v_binR, v_frz_p, v_frz_n, v_pop_p, v_pop_n, v_sto_p, v_sto_n, v_sto_t, v_sto_o, v_lst, v_tup, v_lenR, v_len_s, v_bi_p, v_bi_n, v_bi_o, v_len_l, v_len_t, v_sum_l, v_sum_t, v_all, v_any, v_min_t, v_max_t, v_min_l, v_max_l, v_list_l, v_list_t, v_tuple_l, v_tuple_t, v_idx_t, v_idx_l, v_idx_n, v_idx_o, v_idx_s, v_tg1, v_app, v_seti, v_thn_n, v_thn_r, v_okB, v_noexc, v_arg_p, v_arg_n, v_arg_o, v_arg_s]
      try rfl
    | true =>
      simp only [hsa] at sa
      cases hsb : isSide b with
      | false =>
        simp only [hsb] at sb
        simp only [s_look_board_0, s_look_board_0a_0, sa, sb, List.length_map, ups_len, downs_len, Int.cast_ofNat_Int, List.take_length, Nat.add_assoc, big, v_ix0, v_ix1, v_ix2, v_ix3, v_il0, v_il1, v_in0, v_in1, v_in2, v_tg2, v_sum_ti, v_sum_li, v_len_ti, v_eq_nil, v_ne_nil, v_eq_sd, v_ne_sd, tx_inj, v_in_li, v_eq_li, v_ne_li, v_eq_bd, v_ne_bd, eq_self, and_self, or_self, Int.reduceAdd, Int.reduceSub, Int.reduceMul, Int.reduceNeg, Int.reduceLT, Int.reduceLE, Int.reduceEq, Int.reduceNe, Nat.reduceLeDiff, Nat.reduceLT, decide_true, decide_false, Bool.not_not, ite_true, ite_false, Bool.true_eq_false, Bool.false_eq_true, Bool.and_true, Bool.true_and, Bool.and_false, Bool.false_and, Bool.or_true, Bool.true_or, Bool.or_false, Bool.false_or, Bool.false_eq_true, if_false, if_true, reduceIte, List.getElem?_cons_zero, List.getElem?_cons_succ, List.set_cons_zero, List.set_cons_succ, List.map_cons, List.map_nil, List.length_cons, List.length_nil, List.cons_append, List.nil_append, List.replicate_succ, List.replicate_zero, Nat.reduceAdd, Nat.reduceSub, Bool.not_true, Bool.not_false, decide_true, decide_false, Option.map_some, List.take_succ_cons, List.take_zero, v_g0, v_gk, v_s0, v_sk, v_tk, cl_isx, cl_sub, List.append_assoc, List.length_append, evSs, evS, evE, evAs, evFs, evIs, evB, evO, evIf, cl_scr, Out.bind_ok, Out.bind_exc, Out.bind_bad, R.wipe, v_onP_p, v_onP_n, v_onP_o, v_onP_f, v_int, v_bl, v_str, v_data, v_seq, v_obj, v_ix, v_of, v_retT, v_retT_b, v_retT_s, v_retT_l, v_retB, v_retB_b, v_add, v_sub, v_mul, v_mod, v_fdiv, v_pow, v_addl, v_addt, v_adds, v_mull, v_mult, v_lt, v_le, v_gt, v_ge, v_eq, v_ne, v_eqs, v_nes, v_isN, v_isNN, v_ltt, v_binR, v_frz_p, v_frz_n, v_pop_p, v_pop_n, v_sto_p, v_sto_n, v_sto_t, v_sto_o, v_lst, v_tup, v_lenR, v_len_s, v_bi_p, v_bi_n, v_bi_o, v_len_l, v_len_t, v_sum_l, v_sum_t, v_all, v_any, v_min_t, v_max_t, v_min_l, v_max_l, v_list_l, v_list_t, v_tuple_l, v_tuple_t, v_idx_t, v_idx_l, v_idx_n, v_idx_o, v_idx_s, v_tg1, v_app, v_seti, v_thn_n, v_thn_r, v_okB, v_noexc, v_arg_p, v_arg_n, v_arg_o, v_arg_s]
        try rfl
      | true =>
        simp only [hsb] at sb
        by_cases h : a.sum = b.sum
        · simp only [s_look_board_0, s_look_board_0a_0, sa, sb, v_sum_ti, h, List.length_map, ups_len, downs_len, Int.cast_ofNat_Int, List.take_length, Nat.add_assoc, big, v_ix0, v_ix1, v_ix2, v_ix3, v_il0, v_il1, v_in0, v_in1, v_in2, v_tg2, v_sum_ti, v_sum_li, v_len_ti, v_eq_nil, v_ne_nil, v_eq_sd, v_ne_sd, tx_inj, v_in_li, v_eq_li, v_ne_li, v_eq_bd, v_ne_bd, eq_self, and_self, or_self, Int.reduceAdd, Int.reduceSub, Int.reduceMul, Int.reduceNeg, Int.reduceLT, Int.reduceLE, Int.reduceEq, Int.reduceNe, Nat.reduceLeDiff, Nat.reduceLT, decide_true, decide_false, Bool.not_not, ite_true, ite_false, Bool.true_eq_false, Bool.false_eq_true, Bool.and_true, Bool.true_and, Bool.and_false, Bool.false_and, Bool.or_true, Bool.true_or, Bool.or_false, Bool.false_or, Bool.false_eq_true, if_false, if_true, reduceIte, List.getElem?_cons_zero, List.getElem?_cons_succ, List.set_cons_zero, List.set_cons_succ, List.map_cons, List.map_nil, List.length_cons, List.length_nil, List.cons_append, List.nil_append, List.replicate_succ, List.replicate_zero, Nat.reduceAdd, Nat.reduceSub, Bool.not_true, Bool.not_false, decide_true, decide_false, Option.map_some, List.take_succ_cons, List.take_zero, v_g0, v_gk, v_s0, v_sk, v_tk, cl_isx, cl_sub, List.append_assoc, List.length_append, evSs, evS, evE, evAs, evFs, evIs, evB, evO, evIf, cl_scr, Out.bind_ok, Out.bind_exc, Out.bind_bad, R.wipe, v_onP_p, v_onP_n, v_onP_o, v_onP_f, v_int, v_bl, v_str, v_data, v_seq, v_obj, v_ix, v_of, v_retT, v_retT_b, v_retT_s, v_retT_l, v_retB, v_retB_b, v_add, v_sub, v_mul, v_mod, v_fdiv, v_pow, v_addl, v_addt, v_adds, v_mull, v_mult, v_lt, v_le, v_gt, v_ge, v_eq, v_ne, v_eqs, v_nes, v_isN, v_isNN, v_ltt, v_binR, v_frz_p, v_frz_n, v_pop_p, v_pop_n, v_sto_p, v_sto_n, v_sto_t, v_sto_o, v_lst, v_tup, v_lenR, v_len_s, v_bi_p, v_bi_n, v_bi_o, v_len_l, v_len_t, v_sum_l, v_sum_t, v_all, v_any, v_min_t, v_max_t, v_min_l, v_max_l, v_list_l, v_list_t, v_tuple_l, v_tuple_t, v_idx_t, v_idx_l, v_idx_n, v_idx_o, v_idx_s, v_tg1, v_app, v_seti, v_thn_n, v_thn_r, v_okB, v_noexc, v_arg_p, v_arg_n, v_arg_o, v_arg_s]
          try rfl
        · have hd : decide (a.sum = b.sum) = false := decide_eq_false h
          simp only [s_look_board_0, s_look_board_0a_0, sa, sb, v_sum_ti, hd, List.length_map, ups_len, downs_len, Int.cast_ofNat_Int, List.take_length, Nat.add_assoc, big, v_ix0, v_ix1, v_ix2, v_ix3, v_il0, v_il1, v_in0, v_in1, v_in2, v_tg2, v_sum_ti, v_sum_li, v_len_ti, v_eq_nil, v_ne_nil, v_eq_sd, v_ne_sd, tx_inj, v_in_li, v_eq_li, v_ne_li, v_eq_bd, v_ne_bd, eq_self, and_self, or_self, Int.reduceAdd, Int.reduceSub, Int.reduceMul, Int.reduceNeg, Int.reduceLT, Int.reduceLE, Int.reduceEq, Int.reduceNe, Nat.reduceLeDiff, Nat.reduceLT, decide_true, decide_false, Bool.not_not, ite_true, ite_false, Bool.true_eq_false, Bool.false_eq_true, Bool.and_true, Bool.true_and, Bool.and_false, Bool.false_and, Bool.or_true, Bool.true_or, Bool.or_false, Bool.false_or, Bool.false_eq_true, if_false, if_true, reduceIte, List.getElem?_cons_zero, List.getElem?_cons_succ, List.set_cons_zero, List.set_cons_succ, List.map_cons, List.map_nil, List.length_cons, List.length_nil, List.cons_append, List.nil_append, List.replicate_succ, List.replicate_zero, Nat.reduceAdd, Nat.reduceSub, Bool.not_true, Bool.not_false, decide_true, decide_false, Option.map_some, List.take_succ_cons, List.take_zero, v_g0, v_gk, v_s0, v_sk, v_tk, cl_isx, cl_sub, List.append_assoc, List.length_append, evSs, evS, evE, evAs, evFs, evIs, evB, evO, evIf, cl_scr, Out.bind_ok, Out.bind_exc, Out.bind_bad, R.wipe, v_onP_p, v_onP_n, v_onP_o, v_onP_f, v_int, v_bl, v_str, v_data, v_seq, v_obj, v_ix, v_of, v_retT, v_retT_b, v_retT_s, v_retT_l, v_retB, v_retB_b, v_add, v_sub, v_mul, v_mod, v_fdiv, v_pow, v_addl, v_addt, v_adds, v_mull, v_mult, v_lt, v_le, v_gt, v_ge, v_eq, v_ne, v_eqs, v_nes, v_isN, v_isNN, v_ltt, v_binR, v_frz_p, v_frz_n, v_pop_p, v_pop_n, v_sto_p, v_sto_n, v_sto_t, v_sto_o, v_lst, v_tup, v_lenR, v_len_s, v_bi_p, v_bi_n, v_bi_o, v_len_l, v_len_t, v_sum_l, v_sum_t, v_all, v_any, v_min_t, v_max_t, v_min_l, v_max_l, v_list_l, v_list_t, v_tuple_l, v_tuple_t, v_idx_t, v_idx_l, v_idx_n, v_idx_o, v_idx_s, v_tg1, v_app, v_seti, v_thn_n, v_thn_r, v_okB, v_noexc, v_arg_p, v_arg_n, v_arg_o, v_arg_s]
          try rfl
  cases hsa : isSide a && isSide b && decide (a.sum = b.sum) with
  | false =>
    rw [hsa, if_neg Bool.false_ne_true] at S0
    rw [fn_exc (ρ := [some (.p (bd a b)), none]) rfl rfl (ss_exc S0), List.take_length]
    rw [if_neg]
    intro h
    simp only [Bool.and_eq_true] at h
    rw [h.1, h.2.1, h.2.2.1] at hsa
    exact Bool.noConfusion hsa
  | true =>
    rw [hsa, if_pos rfl] at S0
    simp only [Bool.and_eq_true] at hsa
    obtain ⟨⟨hsa1, hsb1⟩, hab⟩ := hsa
    have la := (isSide_iff.mp hsa1).1
    have lb := (isSide_iff.mp hsb1).1
    have B1 : ∀ x ∈ ups 1 24, ∀ v : Option Rv, evS (C ns (d + 1)) s_look_board_1_0 [some (.p (bd a b)), some (.p (.int x))] μ = if meet a b x = true then .exc "BadBoard" μ else .ok (.nx [some (.p (bd a b)), some (.p (.int x))]) μ := by
      intro x hx _
      obtain ⟨h1, h2⟩ := mem_ups.mp hx
      have g1 := v_sd (scr := ns) (xs := a) (μ := μ) (i := x) (by omega) (by omega)
      have g2 := v_sd (scr := ns) (xs := b) (μ := μ) (i := 25 - x) (by omega) (by omega)
      unfold meet
      by_cases c1 : 0 < gi a x
      · have d1 : decide (0 < gi a x) = true := decide_eq_true c1
        by_cases c2 : 0 < gi b (25 - x)
        · have d2 : decide (0 < gi b (25 - x)) = true := decide_eq_true c2
          simp only [s_look_board_1_0, s_look_board_1_0a_0, g1, g2, d1, d2, List.length_map, ups_len, downs_len, Int.cast_ofNat_Int, List.take_length, Nat.add_assoc, big, v_ix0, v_ix1, v_ix2, v_ix3, v_il0, v_il1, v_in0, v_in1, v_in2, v_tg2, v_sum_ti, v_sum_li, v_len_ti, v_eq_nil, v_ne_nil, v_eq_sd, v_ne_sd, tx_inj, v_in_li, v_eq_li, v_ne_li, v_eq_bd, v_ne_bd, eq_self, and_self, or_self, Int.reduceAdd, Int.reduceSub, Int.reduceMul, Int.reduceNeg, Int.reduceLT, Int.reduceLE, Int.reduceEq, Int.reduceNe, Nat.reduceLeDiff, Nat.reduceLT, decide_true, decide_false, Bool.not_not, ite_true, ite_false, Bool.true_eq_false, Bool.false_eq_true, Bool.and_true, Bool.true_and, Bool.and_false, Bool.false_and, Bool.or_true, Bool.true_or, Bool.or_false, Bool.false_or, Bool.false_eq_true, if_false, if_true, reduceIte, List.getElem?_cons_zero, List.getElem?_cons_succ, List.set_cons_zero, List.set_cons_succ, List.map_cons, List.map_nil, List.length_cons, List.length_nil, List.cons_append, List.nil_append, List.replicate_succ, List.replicate_zero, Nat.reduceAdd, Nat.reduceSub, Bool.not_true, Bool.not_false, decide_true, decide_false, Option.map_some, List.take_succ_cons, List.take_zero, v_g0, v_gk, v_s0, v_sk, v_tk, cl_isx, cl_sub, List.append_assoc, List.length_append, evSs, evS, evE, evAs, evFs, evIs, evB, evO, evIf, cl_scr, Out.bind_ok, Out.bind_exc, Out.bind_bad, R.wipe, v_onP_p, v_onP_n, v_onP_o, v_onP_f, v_int, v_bl, v_str, v_data, v_seq, v_obj, v_ix, v_of, v_retT, v_retT_b, v_retT_s, v_retT_l, v_retB, v_retB_b, v_add, v_sub, v_mul, v_mod, v_fdiv, v_pow, v_addl, v_addt, v_adds, v_mull, v_mult, v_lt, v_le, v_gt, v_ge, v_eq, v_ne, v_eqs, v_nes, v_isN, v_isNN, v_ltt, v_binR, v_frz_p, v_frz_n, v_pop_p, v_pop_n, v_sto_p, v_sto_n, v_sto_t, v_sto_o, v_lst, v_tup, v_lenR, v_len_s, v_bi_p, v_bi_n, v_bi_o, v_len_l, v_len_t, v_sum_l, v_sum_t, v_all, v_any, v_min_t, v_max_t, v_min_l, v_max_l, v_list_l, v_list_t, v_tuple_l, v_tuple_t, v_idx_t, v_idx_l, v_idx_n, v_idx_o, v_idx_s, v_tg1, v_app, v_seti, v_thn_n, v_thn_r, v_okB, v_noexc, v_arg_p, v_arg_n, v_arg_o, v_arg_s]
        · have d2 : decide (0 < gi b (25 - x)) = false := decide_eq_false c2
          simp only [s_look_board_1_0, s_look_board_1_0a_0, g1, g2, d1, d2, List.length_map, ups_len, downs_len, Int.cast_ofNat_Int, List.take_length, Nat.add_assoc, big, v_ix0, v_ix1, v_ix2, v_ix3, v_il0, v_il1, v_in0, v_in1, v_in2, v_tg2, v_sum_ti, v_sum_li, v_len_ti, v_eq_nil, v_ne_nil, v_eq_sd, v_ne_sd, tx_inj, v_in_li, v_eq_li, v_ne_li, v_eq_bd, v_ne_bd, eq_self, and_self, or_self, Int.reduceAdd, Int.reduceSub, Int.reduceMul, Int.reduceNeg, Int.reduceLT, Int.reduceLE, Int.reduceEq, Int.reduceNe, Nat.reduceLeDiff, Nat.reduceLT, decide_true, decide_false, Bool.not_not, ite_true, ite_false, Bool.true_eq_false, Bool.false_eq_true, Bool.and_true, Bool.true_and, Bool.and_false, Bool.false_and, Bool.or_true, Bool.true_or, Bool.or_false, Bool.false_or, Bool.false_eq_true, if_false, if_true, reduceIte, List.getElem?_cons_zero, List.getElem?_cons_succ, List.set_cons_zero, List.set_cons_succ, List.map_cons, List.map_nil, List.length_cons, List.length_nil, List.cons_append, List.nil_append, List.replicate_succ, List.replicate_zero, Nat.reduceAdd, Nat.reduceSub, Bool.not_true, Bool.not_false, decide_true, decide_false, Option.map_some, List.take_succ_cons, List.take_zero, v_g0, v_gk, v_s0, v_sk, v_tk, cl_isx, cl_sub, List.append_assoc, List.length_append, evSs, evS, evE, evAs, evFs, evIs, evB, evO, evIf, cl_scr, Out.bind_ok, Out.bind_exc, Out.bind_bad, R.wipe, v_onP_p, v_onP_n, v_onP_o, v_onP_f, v_int, v_bl, v_str, v_data, v_seq, v_obj, v_ix, v_of, v_retT, v_retT_b, v_retT_s, v_retT_l, v_retB, v_retB_b, v_add, v_sub, v_mul, v_mod, v_fdiv, v_pow, v_addl, v_addt, v_adds, v_mull, v_mult, v_lt, v_le, v_gt, v_ge, v_eq, v_ne, v_eqs, v_nes, v_isN, v_isNN, v_ltt, v_binR, v_frz_p, v_frz_n, v_pop_p, v_pop_n, v_sto_p, v_sto_n, v_sto_t, v_sto_o, v_lst, v_tup, v_lenR, v_len_s, v_bi_p, v_bi_n, v_bi_o, v_len_l, v_len_t, v_sum_l, v_sum_t, v_all, v_any, v_min_t, v_max_t, v_min_l, v_max_l, v_list_l, v_list_t, v_tuple_l, v_tuple_t, v_idx_t, v_idx_l, v_idx_n, v_idx_o, v_idx_s, v_tg1, v_app, v_seti, v_thn_n, v_thn_r, v_okB, v_noexc, v_arg_p, v_arg_n, v_arg_o, v_arg_s]
      · have d1 : decide (0 < gi a x) = false := decide_eq_false c1
        simp only [s_look_board_1_0, s_look_board_1_0a_0, g1, g2, d1, List.length_map, ups_len, downs_len, Int.cast_ofNat_Int, List.take_length, Nat.add_assoc, big, v_ix0, v_ix1, v_ix2, v_ix3, v_il0, v_il1, v_in0, v_in1, v_in2, v_tg2, v_sum_ti, v_sum_li, v_len_ti, v_eq_nil, v_ne_nil, v_eq_sd, v_ne_sd, tx_inj, v_in_li, v_eq_li, v_ne_li, v_eq_bd, v_ne_bd, eq_self, and_self, or_self, Int.reduceAdd, Int.reduceSub, Int.reduceMul, Int.reduceNeg, Int.reduceLT, Int.reduceLE, Int.reduceEq, Int.reduceNe, Nat.reduceLeDiff, Nat.reduceLT, decide_true, decide_false, Bool.not_not, ite_true, ite_false, Bool.true_eq_false, Bool.false_eq_true, Bool.and_true, Bool.true_and, Bool.and_false, Bool.false_and, Bool.or_true, Bool.true_or, Bool.or_false, Bool.false_or, Bool.false_eq_true, if_false, if_true, reduceIte, List.getElem?_cons_zero, List.getElem?_cons_succ, List.set_cons_zero, List.set_cons_succ, List.map_cons, List.map_nil, List.length_cons, List.length_nil, List.cons_append, List.nil_append, List.replicate_succ, List.replicate_zero, Nat.reduceAdd, Nat.reduceSub, Bool.not_true, Bool.not_false, decide_true, decide_false, Option.map_some, List.take_succ_cons, List.take_zero, v_g0, v_gk, v_s0, v_sk, v_tk, cl_isx, cl_sub, List.append_assoc, List.length_append, evSs, evS, evE, evAs, evFs, evIs, evB, evO, evIf, cl_scr, Out.bind_ok, Out.bind_exc, Out.bind_bad, R.wipe, v_onP_p, v_onP_n, v_onP_o, v_onP_f, v_int, v_bl, v_str, v_data, v_seq, v_obj, v_ix, v_of, v_retT, v_retT_b, v_retT_s, v_retT_l, v_retB, v_retB_b, v_add, v_sub, v_mul, v_mod, v_fdiv, v_pow, v_addl, v_addt, v_adds, v_mull, v_mult, v_lt, v_le, v_gt, v_ge, v_eq, v_ne, v_eqs, v_nes, v_isN, v_isNN, v_ltt, v_binR, v_frz_p, v_frz_n, v_pop_p, v_pop_n, v_sto_p, v_sto_n, v_sto_t, v_sto_o, v_lst, v_tup, v_lenR, v_len_s, v_bi_p, v_bi_n, v_bi_o, v_len_l, v_len_t, v_sum_l, v_sum_t, v_all, v_any, v_min_t, v_max_t, v_min_l, v_max_l, v_list_l, v_list_t, v_tuple_l, v_tuple_t, v_idx_t, v_idx_l, v_idx_n, v_idx_o, v_idx_s, v_tg1, v_app, v_seti, v_thn_n, v_thn_r, v_okB, v_noexc, v_arg_p, v_arg_n, v_arg_o, v_arg_s]
    cases hm : (ups 1 24).any (meet a b) with
    | true =>
      have S1 : evS (C ns (d + 1)) s_look_board_1 [some (.p (bd a b)), none] μ = .exc "BadBoard" μ := by
        simp only [s_look_board_1, rng_1_25, List.length_map, ups_len, downs_len, Int.cast_ofNat_Int, List.take_length, Nat.add_assoc, big, v_ix0, v_ix1, v_ix2, v_ix3, v_il0, v_il1, v_in0, v_in1, v_in2, v_tg2, v_sum_ti, v_sum_li, v_len_ti, v_eq_nil, v_ne_nil, v_eq_sd, v_ne_sd, tx_inj, v_in_li, v_eq_li, v_ne_li, v_eq_bd, v_ne_bd, eq_self, and_self, or_self, Int.reduceAdd, Int.reduceSub, Int.reduceMul, Int.reduceNeg, Int.reduceLT, Int.reduceLE, Int.reduceEq, Int.reduceNe, Nat.reduceLeDiff, Nat.reduceLT, decide_true, decide_false, Bool.not_not, ite_true, ite_false, Bool.true_eq_false, Bool.false_eq_true, Bool.and_true, Bool.true_and, Bool.and_false, Bool.false_and, Bool.or_true, Bool.true_or, Bool.or_false, Bool.false_or, Bool.false_eq_true, if_false, if_true, reduceIte, List.getElem?_cons_zero, List.getElem?_cons_succ, List.set_cons_zero, List.set_cons_succ, List.map_cons, List.map_nil, List.length_cons, List.length_nil, List.cons_append, List.nil_append, List.replicate_succ, List.replicate_zero, Nat.reduceAdd, Nat.reduceSub, Bool.not_true, Bool.not_false, decide_true, decide_false, Option.map_some, List.take_succ_cons, List.take_zero, v_g0, v_gk, v_s0, v_sk, v_tk, cl_isx, cl_sub, List.append_assoc, List.length_append, evSs, evS, evE, evAs, evFs, evIs, evB, evO, evIf, cl_scr, Out.bind_ok, Out.bind_exc, Out.bind_bad, R.wipe, v_onP_p, v_onP_n, v_onP_o, v_onP_f, v_int, v_bl, v_str, v_data, v_seq, v_obj, v_ix, v_of, v_retT, v_retT_b, v_retT_s, v_retT_l, v_retB, v_retB_b, v_add, v_sub, v_mul, v_mod, v_fdiv, v_pow, v_addl, v_addt, v_adds, v_mull, v_mult, v_lt, v_le, v_gt, v_ge, v_eq, v_ne, v_eqs, v_nes, v_isN, v_isNN, v_ltt, v_binR, v_frz_p, v_frz_n, v_pop_p, v_pop_n, v_sto_p, v_sto_n, v_sto_t, v_sto_o, v_lst, v_tup, v_lenR, v_len_s, v_bi_p, v_bi_n, v_bi_o, v_len_l, v_len_t, v_sum_l, v_sum_t, v_all, v_any, v_min_t, v_max_t, v_min_l, v_max_l, v_list_l, v_list_t, v_tuple_l, v_tuple_t, v_idx_t, v_idx_l, v_idx_n, v_idx_o, v_idx_s, v_tg1, v_app, v_seti, v_thn_n, v_thn_r, v_okB, v_noexc, v_arg_p, v_arg_n, v_arg_o, v_arg_s]
        refine forL_exit (fun ρ μ' => μ' = μ ∧ ∃ v, ρ = [some (.p (bd a b)), v]) (fun x => ∃ i, x = .int i ∧ meet a b i = true) _ exit_exc ⟨rfl, _, rfl⟩ ?_ ?_ ?_
        · rintro x hx hn ρ μ1 ⟨rfl, v, rfl⟩
          obtain ⟨i, hi, rfl⟩ := List.mem_map.mp hx
          have := B1 i hi none
          rw [if_neg fun h => hn ⟨i, rfl, h⟩] at this
          exact ⟨[some (.p (bd a b)), some (.p (.int i))], μ1, by simp only [this, List.length_map, ups_len, downs_len, Int.cast_ofNat_Int, List.take_length, Nat.add_assoc, big, v_ix0, v_ix1, v_ix2, v_ix3, v_il0, v_il1, v_in0, v_in1, v_in2, v_tg2, v_sum_ti, v_sum_li, v_len_ti, v_eq_nil, v_ne_nil, v_eq_sd, v_ne_sd, tx_inj, v_in_li, v_eq_li, v_ne_li, v_eq_bd, v_ne_bd, eq_self, and_self, or_self, Int.reduceAdd, Int.reduceSub, Int.reduceMul, Int.reduceNeg, Int.reduceLT, Int.reduceLE, Int.reduceEq, Int.reduceNe, Nat.reduceLeDiff, Nat.reduceLT, decide_true, decide_false, Bool.not_not, ite_true, ite_false, Bool.true_eq_false, Bool.false_eq_true, Bool.and_true, Bool.true_and, Bool.and_false, Bool.false_and, Bool.or_true, Bool.true_or, Bool.or_false, Bool.false_or, Bool.false_eq_true, if_false, if_true, reduceIte, List.getElem?_cons_zero, List.getElem?_cons_succ, List.set_cons_zero, List.set_cons_succ, List.map_cons, List.map_nil, List.length_cons, List.length_nil, List.cons_append, List.nil_append, List.replicate_succ, List.replicate_zero, Nat.reduceAdd, Nat.reduceSub, Bool.not_true, Bool.not_false, decide_true, decide_false, Option.map_some, List.take_succ_cons, List.take_zero, v_g0, v_gk, v_s0, v_sk, v_tk, cl_isx, cl_sub, List.append_assoc, List.length_append, evSs, evS, evE, evAs, evFs, evIs, evB, evO, evIf, cl_scr, Out.bind_ok, Out.bind_exc, Out.bind_bad, R.wipe, v_onP_p, v_onP_n, v_onP_o, v_onP_f, v_int, v_bl, v_str, v_data, v_seq, v_obj, v_ix, v_of, v_retT, v_retT_b, v_retT_s, v_retT_l, v_retB, v_retB_b, v_add, v_sub, v_mul, v_mod, v_fdiv, v_pow, v_addl, v_addt, v_adds, v_mull, v_mult, v_lt, v_le, v_gt, v_ge, v_eq, v_ne, v_eqs, v_nes, v_isN, v_isNN, v_ltt, v_binR, v_frz_p, v_frz_n, v_pop_p, v_pop_n, v_sto_p, v_sto_n, v_sto_t, v_sto_o, v_lst, v_tup, v_lenR, v_len_s, v_bi_p, v_bi_n, v_bi_o, v_len_l, v_len_t, v_sum_l, v_sum_t, v_all, v_any, v_min_t, v_max_t, v_min_l, v_max_l, v_list_l, v_list_t, v_tuple_l, v_tuple_t, v_idx_t, v_idx_l, v_idx_n, v_idx_o, v_idx_s, v_tg1, v_app, v_seti, v_thn_n, v_thn_r, v_okB, v_noexc, v_arg_p, v_arg_n, v_arg_o, v_arg_s], rfl, _, rfl⟩
        · rintro x hx ⟨i, rfl, hi⟩ ρ μ1 ⟨rfl, v, rfl⟩
          have := B1 i (by obtain ⟨j, hj, e⟩ := List.mem_map.mp hx; cases e; exact hj) none
          rw [if_pos hi] at this
          simp only [this, List.length_map, ups_len, downs_len, Int.cast_ofNat_Int, List.take_length, Nat.add_assoc, big, v_ix0, v_ix1, v_ix2, v_ix3, v_il0, v_il1, v_in0, v_in1, v_in2, v_tg2, v_sum_ti, v_sum_li, v_len_ti, v_eq_nil, v_ne_nil, v_eq_sd, v_ne_sd, tx_inj, v_in_li, v_eq_li, v_ne_li, v_eq_bd, v_ne_bd, eq_self, and_self, or_self, Int.reduceAdd, Int.reduceSub, Int.reduceMul, Int.reduceNeg, Int.reduceLT, Int.reduceLE, Int.reduceEq, Int.reduceNe, Nat.reduceLeDiff, Nat.reduceLT, decide_true, decide_false, Bool.not_not, ite_true, ite_false, Bool.true_eq_false, Bool.false_eq_true, Bool.and_true, Bool.true_and, Bool.and_false, Bool.false_and, Bool.or_true, Bool.true_or, Bool.or_false, Bool.false_or, Bool.false_eq_true, if_false, if_true, reduceIte, List.getElem?_cons_zero, List.getElem?_cons_succ, List.set_cons_zero, List.set_cons_succ, List.map_cons, List.map_nil, List.length_cons, List.length_nil, List.cons_append, List.nil_append, List.replicate_succ, List.replicate_zero, Nat.reduceAdd, Nat.reduceSub, Bool.not_true, Bool.not_false, decide_true, decide_false, Option.map_some, List.take_succ_cons, List.take_zero, v_g0, v_gk, v_s0, v_sk, v_tk, cl_isx, cl_sub, List.append_assoc, List.length_append, evSs, evS, evE, evAs, evFs, evIs, evB, evO, evIf, cl_scr, Out.bind_ok, Out.bind_exc, Out.bind_bad, R.wipe, v_onP_p, v_onP_n, v_onP_o, v_onP_f, v_int, v_bl, v_str, v_data, v_seq, v_obj, v_ix, v_of, v_retT, v_retT_b, v_retT_s, v_retT_l, v_retB, v_retB_b, v_add, v_sub, v_mul, v_mod, v_fdiv, v_pow, v_addl, v_addt, v_adds, v_mull, v_mult, v_lt, v_le, v_gt, v_ge, v_eq, v_ne, v_eqs, v_nes, v_isN, v_isNN, v_ltt, v_binR, v_frz_p, v_frz_n, v_pop_p, v_pop_n, v_sto_p, v_sto_n, v_sto_t, v_sto_o, v_lst, v_tup, v_lenR, v_len_s, v_bi_p, v_bi_n, v_bi_o, v_len_l, v_len_t, v_sum_l, v_sum_t, v_all, v_any, v_min_t, v_max_t, v_min_l, v_max_l, v_list_l, v_list_t, v_tuple_l, v_tuple_t, v_idx_t, v_idx_l, v_idx_n, v_idx_o, v_idx_s, v_tg1, v_app, v_seti, v_thn_n, v_thn_r, v_okB, v_noexc, v_arg_p, v_arg_n, v_arg_o, v_arg_s]
        · obtain ⟨i, hi, h⟩ := List.any_eq_true.mp hm
          exact ⟨_, List.mem_map.mpr ⟨i, hi, rfl⟩, i, rfl, h⟩
      rw [fn_exc (ρ := [some (.p (bd a b)), none]) rfl rfl ((ss_next S0).trans (ss_exc S1)), List.take_length]
      rw [if_neg]
      simp
    | false =>
      obtain ⟨ρ', μ', S1, rfl, v, rfl⟩ : ∃ ρ' μ', evS (C ns (d + 1)) s_look_board_1 [some (.p (bd a b)), none] μ = .ok (.nx ρ') μ' ∧ μ' = μ ∧ ∃ v, ρ' = [some (.p (bd a b)), v] := by
        simp only [s_look_board_1, rng_1_25, List.length_map, ups_len, downs_len, Int.cast_ofNat_Int, List.take_length, Nat.add_assoc, big, v_ix0, v_ix1, v_ix2, v_ix3, v_il0, v_il1, v_in0, v_in1, v_in2, v_tg2, v_sum_ti, v_sum_li, v_len_ti, v_eq_nil, v_ne_nil, v_eq_sd, v_ne_sd, tx_inj, v_in_li, v_eq_li, v_ne_li, v_eq_bd, v_ne_bd, eq_self, and_self, or_self, Int.reduceAdd, Int.reduceSub, Int.reduceMul, Int.reduceNeg, Int.reduceLT, Int.reduceLE, Int.reduceEq, Int.reduceNe, Nat.reduceLeDiff, Nat.reduceLT, decide_true, decide_false, Bool.not_not, ite_true, ite_false, Bool.true_eq_false, Bool.false_eq_true, Bool.and_true, Bool.true_and, Bool.and_false, Bool.false_and, Bool.or_true, Bool.true_or, Bool.or_false, Bool.false_or, Bool.false_eq_true, if_false, if_true, reduceIte, List.getElem?_cons_zero, List.getElem?_cons_succ, List.set_cons_zero, List.set_cons_succ, List.map_cons, List.map_nil, List.length_cons, List.length_nil, List.cons_append, List.nil_append, List.replicate_succ, List.replicate_zero, Nat.reduceAdd, Nat.reduceSub, Bool.not_true, Bool.not_false, decide_true, decide_false, Option.map_some, List.take_succ_cons, List.take_zero, v_g0, v_gk, v_s0, v_sk, v_tk, cl_isx, cl_sub, List.append_assoc, List.length_append, evSs, evS, evE, evAs, evFs, evIs, evB, evO, evIf, cl_scr, Out.bind_ok, Out.bind_exc, Out.bind_bad, R.wipe, v_onP_p, v_onP_n, v_onP_o, v_onP_f, v_int, v_bl, v_str, v_data, v_seq, v_obj, v_ix, v_of, v_retT, v_retT_b, v_retT_s, v_retT_l, v_retB, v_retB_b, v_add, v_sub, v_mul, v_mod, v_fdiv, v_pow, v_addl, v_addt, v_adds, v_mull, v_mult, v_lt, v_le, v_gt, v_ge, v_eq, v_ne, v_eqs, v_nes, v_isN, v_isNN, v_ltt, v_binR, v_frz_p, v_frz_n, v_pop_p, v_pop_n, v_sto_p, v_sto_n, v_sto_t, v_sto_o, v_lst, v_tup, v_lenR, v_len_s, v_bi_p, v_bi_n, v_bi_o, v_len_l, v_len_t, v_sum_l, v_sum_t, v_all, v_any, v_min_t, v_max_t, v_min_l, v_max_l, v_list_l, v_list_t, v_tuple_l, v_tuple_t, v_idx_t, v_idx_l, v_idx_n, v_idx_o, v_idx_s, v_tg1, v_app, v_seti, v_thn_n, v_thn_r, v_okB, v_noexc, v_arg_p, v_arg_n, v_arg_o, v_arg_s]
        refine forL_all (fun ρ μ' => μ' = μ ∧ ∃ v, ρ = [some (.p (bd a b)), v]) ⟨rfl, _, rfl⟩ ?_
        rintro x hx ρ μ1 ⟨rfl, v, rfl⟩
        obtain ⟨i, hi, rfl⟩ := List.mem_map.mp hx
        have := B1 i hi none
        rw [if_neg fun h => by rw [List.any_eq_true.mpr ⟨i, hi, h⟩] at hm; exact Bool.noConfusion hm] at this
        exact ⟨[some (.p (bd a b)), some (.p (.int i))], μ1, by simp only [this, List.length_map, ups_len, downs_len, Int.cast_ofNat_Int, List.take_length, Nat.add_assoc, big, v_ix0, v_ix1, v_ix2, v_ix3, v_il0, v_il1, v_in0, v_in1, v_in2, v_tg2, v_sum_ti, v_sum_li, v_len_ti, v_eq_nil, v_ne_nil, v_eq_sd, v_ne_sd, tx_inj, v_in_li, v_eq_li, v_ne_li, v_eq_bd, v_ne_bd, eq_self, and_self, or_self, Int.reduceAdd, Int.reduceSub, Int.reduceMul, Int.reduceNeg, Int.reduceLT, Int.reduceLE, Int.reduceEq, Int.reduceNe, Nat.reduceLeDiff, Nat.reduceLT, decide_true, decide_false, Bool.not_not, ite_true, ite_false, Bool.true_eq_false, Bool.false_eq_true, Bool.and_true, Bool.true_and, Bool.and_false, Bool.false_and, Bool.or_true, Bool.true_or, Bool.or_false, Bool.false_or, Bool.false_eq_true, if_false, if_true, reduceIte, List.getElem?_cons_zero, List.getElem?_cons_succ, List.set_cons_zero, List.set_cons_succ, List.map_cons, List.map_nil, List.length_cons, List.length_nil, List.cons_append, List.nil_append, List.replicate_succ, List.replicate_zero, Nat.reduceAdd, Nat.reduceSub, Bool.not_true, Bool.not_false, decide_true, decide_false, Option.map_some, List.take_succ_cons, List.take_zero, v_g0, v_gk, v_s0, v_sk, v_tk, cl_isx, cl_sub, List.append_assoc, List.length_append, evSs, evS, evE, evAs, evFs, evIs, evB, evO, evIf, cl_scr, Out.bind_ok, Out.bind_exc, Out.bind_bad, R.wipe, v_onP_p, v_onP_n, v_onP_o, v_onP_f, v_int, v_bl, v_str, v_data, v_seq, v_obj, v_ix, v_of, v_retT, v_retT_b, v_retT_s, v_retT_l, v_retB, v_retB_b, v_add, v_sub, v_mul, v_mod, v_fdiv, v_pow, v_addl, v_addt, v_adds, v_mull, v_mult, v_lt, v_le, v_gt, v_ge, v_eq, v_ne, v_eqs, v_nes, v_isN, v_isNN, v_ltt, v_binR, v_frz_p, v_frz_n, v_pop_p, v_pop_n, v_sto_p, v_sto_n, v_sto_t, v_sto_o, v_lst, v_tup, v_lenR, v_len_s, v_bi_p, v_bi_n, v_bi_o, v_len_l, v_len_t, v_sum_l, v_sum_t, v_all, v_any, v_min_t, v_max_t, v_min_l, v_max_l, v_list_l, v_list_t, v_tuple_l, v_tuple_t, v_idx_t, v_idx_l, v_idx_n, v_idx_o, v_idx_s, v_tg1, v_app, v_seti, v_thn_n, v_thn_r, v_okB, v_noexc, v_arg_p, v_arg_n, v_arg_o, v_arg_s], rfl, _, rfl⟩
      have g1 := v_sd (scr := ns) (xs := a) (μ := μ') (i := 0) (by omega) (by omega)
      have g2 := v_sd (scr := ns) (xs := b) (μ := μ') (i := 0) (by omega) (by omega)
      have S2 : evS (C ns (d + 1)) s_look_board_2 [some (.p (bd a b)), v] μ' = if isOver a b = true then .exc "BadBoard" μ' else .ok (.nx [some (.p (bd a b)), v]) μ' := by
        unfold isOver
        by_cases c1 : gi a 0 = a.sum
        · have d1 : decide (gi a 0 = a.sum) = true := decide_eq_true c1
          by_cases c2 : gi b 0 = b.sum
          · have d2 : decide (gi b 0 = b.sum) = true := decide_eq_true c2
            simp only [s_look_board_2, s_look_board_2a_0, g1, g2, v_sum_ti, d1, d2, List.length_map, ups_len, downs_len, Int.cast_ofNat_Int, List.take_length, Nat.add_assoc, big, v_ix0, v_ix1, v_ix2, v_ix3, v_il0, v_il1, v_in0, v_in1, v_in2, v_tg2, v_sum_ti, v_sum_li, v_len_ti, v_eq_nil, v_ne_nil, v_eq_sd, v_ne_sd, tx_inj, v_in_li, v_eq_li, v_ne_li, v_eq_bd, v_ne_bd, eq_self, and_self, or_self, Int.reduceAdd, Int.reduceSub, Int.reduceMul, Int.reduceNeg, Int.reduceLT, Int.reduceLE, Int.reduceEq, Int.reduceNe, Nat.reduceLeDiff, Nat.reduceLT, decide_true, decide_false, Bool.not_not, ite_true, ite_false, Bool.true_eq_false, Bool.false_eq_true, Bool.and_true, Bool.true_and, Bool.and_false, Bool.false_and, Bool.or_true, Bool.true_or, Bool.or_false, Bool.false_or, Bool.false_eq_true, if_false, if_true, reduceIte, List.getElem?_cons_zero, List.getElem?_cons_succ, List.set_cons_zero, List.set_cons_succ, List.map_cons, List.map_nil, List.length_cons, List.length_nil, List.cons_append, List.nil_append, List.replicate_succ, List.replicate_zero, Nat.reduceAdd, Nat.reduceSub, Bool.not_true, Bool.not_false, decide_true, decide_false, Option.map_some, List.take_succ_cons, List.take_zero, v_g0, v_gk, v_s0, v_sk, v_tk, cl_isx, cl_sub, List.append_assoc, List.length_append, evSs, evS, evE, evAs, evFs, evIs, evB, evO, evIf, cl_scr, Out.bind_ok, Out.bind_exc, Out.bind_bad, R.wipe, v_onP_p, v_onP_n, v_onP_o, v_onP_f, v_int, v_bl, v_str, v_data, v_seq, v_obj, v_ix, v_of, v_retT, v_retT_b, v_retT_s, v_retT_l, v_retB, v_retB_b, v_add, v_sub, v_mul, v_mod, v_fdiv, v_pow, v_addl, v_addt, v_adds, v_mull, v_mult, v_lt, v_le, v_gt, v_ge, v_eq, v_ne, v_eqs, v_nes, v_isN, v_isNN, v_ltt, v_binR, v_frz_p, v_frz_n, v_pop_p, v_pop_n, v_sto_p, v_sto_n, v_sto_t, v_sto_o, v_lst, v_tup, v_lenR, v_len_s, v_bi_p, v_bi_n, v_bi_o, v_len_l, v_len_t, v_sum_l, v_sum_t, v_all, v_any, v_min_t, v_max_t, v_min_l, v_max_l, v_list_l, v_list_t, v_tuple_l, v_tuple_t, v_idx_t, v_idx_l, v_idx_n, v_idx_o, v_idx_s, v_tg1, v_app, v_seti, v_thn_n, v_thn_r, v_okB, v_noexc, v_arg_p, v_arg_n, v_arg_o, v_arg_s]
          · have d2 : decide (gi b 0 = b.sum) = false := decide_eq_false c2
            simp only [s_look_board_2, s_look_board_2a_0, g1, g2, v_sum_ti, d1, d2, List.length_map, ups_len, downs_len, Int.cast_ofNat_Int, List.take_length, Nat.add_assoc, big, v_ix0, v_ix1, v_ix2, v_ix3, v_il0, v_il1, v_in0, v_in1, v_in2, v_tg2, v_sum_ti, v_sum_li, v_len_ti, v_eq_nil, v_ne_nil, v_eq_sd, v_ne_sd, tx_inj, v_in_li, v_eq_li, v_ne_li, v_eq_bd, v_ne_bd, eq_self, and_self, or_self, Int.reduceAdd, Int.reduceSub, Int.reduceMul, Int.reduceNeg, Int.reduceLT, Int.reduceLE, Int.reduceEq, Int.reduceNe, Nat.reduceLeDiff, Nat.reduceLT, decide_true, decide_false, Bool.not_not, ite_true, ite_false, Bool.true_eq_false, Bool.false_eq_true, Bool.and_true, Bool.true_and, Bool.and_false, Bool.false_and, Bool.or_true, Bool.true_or, Bool.or_false, Bool.false_or, Bool.false_eq_true, if_false, if_true, reduceIte, List.getElem?_cons_zero, List.getElem?_cons_succ, List.set_cons_zero, List.set_cons_succ, List.map_cons, List.map_nil, List.length_cons, List.length_nil, List.cons_append, List.nil_append, List.replicate_succ, List.replicate_zero, Nat.reduceAdd, Nat.reduceSub, Bool.not_true, Bool.not_false, decide_true, decide_false, Option.map_some, List.take_succ_cons, List.take_zero, v_g0, v_gk, v_s0, v_sk, v_tk, cl_isx, cl_sub, List.append_assoc, List.length_append, evSs, evS, evE, evAs, evFs, evIs, evB, evO, evIf, cl_scr, Out.bind_ok, Out.bind_exc, Out.bind_bad, R.wipe, v_onP_p, v_onP_n, v_onP_o, v_onP_f, v_int, v_bl, v_str, v_data, v_seq, v_obj, v_ix, v_of, v_retT, v_retT_b, v_retT_s, v_retT_l, v_retB, v_retB_b, v_add, v_sub, v_mul, v_mod, v_fdiv, v_pow, v_addl, v_addt, v_adds, v_mull, v_mult, v_lt, v_le, v_gt, v_ge, v_eq, v_ne, v_eqs, v_nes, v_isN, v_isNN, v_ltt, v_binR, v_frz_p, v_frz_n, v_pop_p, v_pop_n, v_sto_p, v_sto_n, v_sto_t, v_sto_o, v_lst, v_tup, v_lenR, v_len_s, v_bi_p, v_bi_n, v_bi_o, v_len_l, v_len_t, v_sum_l, v_sum_t, v_all, v_any, v_min_t, v_max_t, v_min_l, v_max_l, v_list_l, v_list_t, v_tuple_l, v_tuple_t, v_idx_t, v_idx_l, v_idx_n, v_idx_o, v_idx_s, v_tg1, v_app, v_seti, v_thn_n, v_thn_r, v_okB, v_noexc, v_arg_p, v_arg_n, v_arg_o, v_arg_s]
        · have d1 : decide (gi a 0 = a.sum) = false := decide_eq_false c1
          simp only [s_look_board_2, s_look_board_2a_0, g1, g2, v_sum_ti, d1, List.length_map, ups_len, downs_len, Int.cast_ofNat_Int, List.take_length, Nat.add_assoc, big, v_ix0, v_ix1, v_ix2, v_ix3, v_il0, v_il1, v_in0, v_in1, v_in2, v_tg2, v_sum_ti, v_sum_li, v_len_ti, v_eq_nil, v_ne_nil, v_eq_sd, v_ne_sd, tx_inj, v_in_li, v_eq_li, v_ne_li, v_eq_bd, v_ne_bd, eq_self, and_self, or_self, Int.reduceAdd, Int.reduceSub, Int.reduceMul, Int.reduceNeg, Int.reduceLT, Int.reduceLE, Int.reduceEq, Int.reduceNe, Nat.reduceLeDiff, Nat.reduceLT, decide_true, decide_false, Bool.not_not, ite_true, ite_false, Bool.true_eq_false, Bool.false_eq_true, Bool.and_true, Bool.true_and, Bool.and_false, Bool.false_and, Bool.or_true, Bool.true_or, Bool.or_false, Bool.false_or, Bool.false_eq_true, if_false, if_true, reduceIte, List.getElem?_cons_zero, List.getElem?_cons_succ, List.set_cons_zero, List.set_cons_succ, List.map_cons, List.map_nil, List.length_cons, List.length_nil, List.cons_append, List.nil_append, List.replicate_succ, List.replicate_zero, Nat.reduceAdd, Nat.reduceSub, Bool.not_true, Bool.not_false, decide_true, decide_false, Option.map_some, List.take_succ_cons, List.take_zero, v_g0, v_gk, v_s0, v_sk, v_tk, cl_isx, cl_sub, List.append_assoc, List.length_append, evSs, evS, evE, evAs, evFs, evIs, evB, evO, evIf, cl_scr, Out.bind_ok, Out.bind_exc, Out.bind_bad, R.wipe, v_onP_p, v_onP_n, v_onP_o, v_onP_f, v_int, v_bl, v_str, v_data, v_seq, v_obj, v_ix, v_of, v_retT, v_retT_b, v_retT_s, v_retT_l, v_retB, v_retB_b, v_add, v_sub, v_mul, v_mod, v_fdiv, v_pow, v_addl, v_addt, v_adds, v_mull, v_mult, v_lt, v_le, v_gt, v_ge, v_eq, v_ne, v_eqs, v_nes, v_isN, v_isNN, v_ltt, v_binR, v_frz_p, v_frz_n, v_pop_p, v_pop_n, v_sto_p, v_sto_n, v_sto_t, v_sto_o, v_lst, v_tup, v_lenR, v_len_s, v_bi_p, v_bi_n, v_bi_o, v_len_l, v_len_t, v_sum_l, v_sum_t, v_all, v_any, v_min_t, v_max_t, v_min_l, v_max_l, v_list_l, v_list_t, v_tuple_l, v_tuple_t, v_idx_t, v_idx_l, v_idx_n, v_idx_o, v_idx_s, v_tg1, v_app, v_seti, v_thn_n, v_thn_r, v_okB, v_noexc, v_arg_p, v_arg_n, v_arg_o, v_arg_s]
      rw [hsa1, hsb1, hab]
      cases ho : isOver a b with
      | true =>
        rw [ho, if_pos rfl] at S2
        rw [fn_exc (ρ := [some (.p (bd a b)), none]) rfl rfl ((ss_next S0).trans ((ss_next S1).trans (ss_exc S2))), List.take_length]
        rfl
      | false =>
        rw [ho, if_neg Bool.false_ne_true] at S2
        rw [fn_end (ρ := [some (.p (bd a b)), none]) (ρ1 := [some (.p (bd a b)), v]) (μ1 := μ') rfl rfl ((ss_next S0).trans ((ss_next S1).trans ((ss_next S2).trans rfl))), v_pop_p, List.take_length]
        rfl
theorem isBoard_iff {a b : List Int} : isBoard a b = true ↔ isSide a = true ∧ isSide b = true ∧ a.sum = b.sum ∧ (∀ p, 1 ≤ p → p < 25 → ¬ (0 < gi a p ∧ 0 < gi b (25 - p))) ∧ ¬ (gi a 0 = a.sum ∧ gi b 0 = b.sum) := by
  unfold isBoard isOver
  simp only [Bool.and_eq_true, decide_eq_true_eq, Bool.not_eq_true', List.any_eq_false, Bool.and_eq_false_iff, decide_eq_false_iff_not]
  constructor
  · rintro ⟨h1, h2, h3, h4, h5⟩
    refine ⟨h1, h2, h3, fun p p1 p2 hh => ?_, fun hh => ?_⟩
    · have := h4 p (mem_ups.mpr ⟨p1, by omega⟩)
      unfold meet at this
      simp [hh.1, hh.2] at this
    · rcases h5 with h5 | h5
      · exact h5 hh.1
      · exact h5 hh.2
  · rintro ⟨h1, h2, h3, h4, h5⟩
    refine ⟨h1, h2, h3, fun p hp => ?_, ?_⟩
    · obtain ⟨p1, p2⟩ := mem_ups.mp hp
      have := h4 p p1 (by omega)
      unfold meet
      simp only [Bool.and_eq_true, decide_eq_true_eq]
      exact this
    · by_cases c : gi a 0 = a.sum
      · exact .inr fun h => h5 ⟨c, h⟩
      · exact .inl c
theorem isBoard_len {a b : List Int} (h : isBoard a b = true) : a.length = 26 ∧ b.length = 26 := by
  obtain ⟨h1, h2, _⟩ := isBoard_iff.mp h
  exact ⟨(isSide_iff.mp h1).1, (isSide_iff.mp h2).1⟩
theorem fn_look_ok (ns : List Int) (d : Nat) {a b : List Int} (h : isBoard a b = true) (μ : Mu) : (C ns (d + 2)).fn 1 [.p (.tup [.tup (a.map .int), .tup (b.map .int)])] μ = .ok (.p .non) μ := by
  obtain ⟨h1, h2⟩ := isBoard_len h
  rw [fn_look ns d a b (by omega) (by omega), if_pos h]
theorem fn_look_bad (ns : List Int) (d : Nat) {a b : List Int} (ha : a.length ≤ 1000) (hb : b.length ≤ 1000) (h : isBoard a b = false) (μ : Mu) : (C ns (d + 2)).fn 1 [.p (.tup [.tup (a.map .int), .tup (b.map .int)])] μ = .exc "BadBoard" μ := by
  rw [fn_look ns d a b ha hb, h, if_neg Bool.false_ne_true]
theorem gi_mem {xs : List Int} {i : Int} (h2 : i < xs.length) (h : 0 ≤ i) : gi xs i ∈ xs := by
  unfold gi
  rw [List.getD_eq_getElem?_getD, List.getElem?_eq_getElem (by omega)]
  exact List.getElem_mem _
theorem sum_nonneg : ∀ (xs : List Int), (∀ x ∈ xs, 0 ≤ x) → 0 ≤ xs.sum
  | [], _ => Int.le_refl _
  | x :: xs, h => by
    have h1 := h x (by simp)
    have h2 := sum_nonneg xs fun y hy => h y (List.mem_cons_of_mem _ hy)
    show 0 ≤ x + xs.sum
    omega
theorem mem_le_sum : ∀ (xs : List Int), (∀ x ∈ xs, 0 ≤ x) → ∀ x ∈ xs, x ≤ xs.sum
  | [], _, x, hx => absurd hx (by simp)
  | y :: xs, h, x, hx => by
    have h1 := h y (by simp)
    have h2 := sum_nonneg xs fun y hy => h y (List.mem_cons_of_mem _ hy)
    have ih := mem_le_sum xs fun y hy => h y (List.mem_cons_of_mem _ hy)
    show x ≤ y + xs.sum
    rcases List.mem_cons.mp hx with rfl | hx
    · omega
    · have := ih x hx
      omega
theorem side_b {xs : List Int} (h : isSide xs = true) {i : Int} (h0 : 0 ≤ i) (h1 : i < 26) : 0 ≤ gi xs i ∧ gi xs i ≤ xs.sum := by
  obtain ⟨l, hn, _, _⟩ := isSide_iff.mp h
  have hm := gi_mem (xs := xs) (i := i) (by omega) h0
  exact ⟨hn _ hm, mem_le_sum xs hn _ hm⟩

end R
namespace R
open PySem
theorem isBoard_turn {a b : List Int} : isBoard b a = isBoard a b := by
  rw [Bool.eq_iff_iff, isBoard_iff, isBoard_iff]
  constructor
  · rintro ⟨h1, h2, h3, h4, h5⟩
    refine ⟨h2, h1, h3.symm, fun p p1 p2 hh => h4 (25 - p) (by omega) (by omega) ⟨hh.2, ?_⟩, fun hh => h5 ⟨hh.2, hh.1⟩⟩
    have : 25 - (25 - p) = p := by omega
    rw [this]
    exact hh.1
  · rintro ⟨h1, h2, h3, h4, h5⟩
    refine ⟨h2, h1, h3.symm, fun p p1 p2 hh => h4 (25 - p) (by omega) (by omega) ⟨hh.2, ?_⟩, fun hh => h5 ⟨hh.2, hh.1⟩⟩
    have : 25 - (25 - p) = p := by omega
    rw [this]
    exact hh.1
/-! ### the law's board -/
def z26 : List Int := List.replicate 26 0
def inc (xs : List Int) (p : Int) : List Int := si xs p (gi xs p + 1)
/-- behind so many men put: the side, how many draws -/
def mineV (ns : List Int) (t : Nat) : Nat → List Int × Nat
  | 0 => (z26, t)
  | i + 1 => (inc (mineV ns t i).1 (placeV ns (mineV ns t i).2).1, (placeV ns (mineV ns t i).2).2)
def freeV (a : List Int) (p : Int) : Int := if (1 ≤ p ∧ p ≤ 24) ∧ gi a (25 - p) ≠ 0 then 0 else p
def theirsV (ns : List Int) (a : List Int) (t : Nat) : Nat → List Int × Nat
  | 0 => (z26, t)
  | i + 1 => (inc (theirsV ns a t i).1 (freeV a (placeV ns (theirsV ns a t i).2).1), (placeV ns (theirsV ns a t i).2).2)
structure SideIs (xs : List Int) (m : Int) : Prop where
  len : xs.length = 26
  nn : ∀ x ∈ xs, 0 ≤ x
  sum : xs.sum = m
theorem side_gi {xs : List Int} {m : Int} (h : SideIs xs m) {p : Int} (h0 : 0 ≤ p) (h1 : p < 26) : 0 ≤ gi xs p := h.nn _ (gi_mem (by rw [h.len]; omega) h0)
theorem side_set {xs : List Int} {m : Int} (h : SideIs xs m) {p v : Int} (h0 : 0 ≤ p) (h1 : p < 26) (hv : 0 ≤ v) : SideIs (si xs p v) (m + v - gi xs p) where
  len := by rw [si_len]; exact h.len
  nn := fun x hx => by
    rcases List.mem_or_eq_of_mem_set hx with hx | rfl
    · exact h.nn x hx
    · exact hv
  sum := by rw [si_sum h0 (by rw [h.len]; omega), h.sum]
theorem side_inc {xs : List Int} {m : Int} (h : SideIs xs m) {p : Int} (h0 : 0 ≤ p) (h1 : p < 26) : SideIs (inc xs p) (m + 1) := by
  have hg := side_gi h h0 h1
  have := side_set h (v := gi xs p + 1) h0 h1 (by omega)
  have e : m + (gi xs p + 1) - gi xs p = m + 1 := by omega
  rw [e] at this
  exact this
theorem z26_is : SideIs z26 0 := ⟨rfl, fun x hx => by rw [List.eq_of_mem_replicate hx]; exact Int.le_refl _, by decide⟩
theorem freeV_b (a : List Int) {p : Int} (h : 0 ≤ p ∧ p ≤ 25) : 0 ≤ freeV a p ∧ freeV a p ≤ 25 := by
  unfold freeV
  split <;> omega
theorem mineV_is (ns : List Int) (t : Nat) : ∀ i : Nat, SideIs (mineV ns t i).1 i ∧ (mineV ns t i).2 ≤ t + 2 * i ∧ t ≤ (mineV ns t i).2
  | 0 => ⟨z26_is, Nat.le_refl _, Nat.le_refl _⟩
  | i + 1 => by
    obtain ⟨h1, h2, h3⟩ := mineV_is ns t i
    obtain ⟨p1, p2, p3, p4⟩ := placeV_b ns (mineV ns t i).2
    exact ⟨by have := side_inc h1 p1 (by omega); rw [Int.natCast_add]; exact this, by show (placeV _ _).2 ≤ _; omega, by show _ ≤ (placeV _ _).2; omega⟩
theorem theirsV_is (ns a : List Int) (t : Nat) : ∀ i : Nat, SideIs (theirsV ns a t i).1 i ∧ (theirsV ns a t i).2 ≤ t + 2 * i ∧ t ≤ (theirsV ns a t i).2 ∧ ∀ p, 1 ≤ p → p < 25 → 0 < gi (theirsV ns a t i).1 p → gi a (25 - p) = 0
  | 0 => ⟨z26_is, Nat.le_refl _, Nat.le_refl _, fun p p1 p2 h => by
    have : gi z26 p = 0 := by
      have hm := gi_mem (xs := z26) (i := p) (by rw [z26_is.len]; omega) (by omega)
      exact List.eq_of_mem_replicate hm
    rw [show (theirsV ns a t 0).1 = z26 from rfl, this] at h
    omega⟩
  | i + 1 => by
    obtain ⟨h1, h2, h3, h4⟩ := theirsV_is ns a t i
    obtain ⟨p1, p2, p3, p4⟩ := placeV_b ns (theirsV ns a t i).2
    have hf := freeV_b a (p := (placeV ns (theirsV ns a t i).2).1) ⟨p1, p2⟩
    refine ⟨by have := side_inc h1 hf.1 (by omega); rw [Int.natCast_add]; exact this, by show (placeV _ _).2 ≤ _; omega, by show _ ≤ (placeV _ _).2; omega, fun p q1 q2 h => ?_⟩
    change 0 < gi (inc (theirsV ns a t i).1 (freeV a (placeV ns (theirsV ns a t i).2).1)) p at h
    unfold inc at h
    rw [gi_si hf.1 (by rw [h1.len]; omega) (by omega)] at h
    by_cases c : p = freeV a (placeV ns (theirsV ns a t i).2).1
    · unfold freeV at c
      split at c
      · omega
      · rename_i hn
        by_cases e : gi a (25 - p) = 0
        · exact e
        · rw [← c] at hn
          exact absurd ⟨⟨q1, by omega⟩, e⟩ hn
    · rw [if_neg c] at h
      exact h4 p q1 q2 h
def boardF (m : Int) (a b : List Int × Nat) : List Int × List Int × Nat := if gi a.1 0 = m ∧ gi b.1 0 = m then (si (si a.1 0 (m - 1)) 25 1, b.1, b.2) else (a.1, b.1, b.2)
def boardV (ns : List Int) (t : Nat) (most : Int) : List Int × List Int × Nat :=
  boardF (1 + drawV ns t most) (mineV ns (t + 1) (1 + drawV ns t most).toNat) (theirsV ns (mineV ns (t + 1) (1 + drawV ns t most).toNat).1 (mineV ns (t + 1) (1 + drawV ns t most).toNat).2 (1 + drawV ns t most).toNat)
theorem all_off {xs : List Int} {m : Int} (h : SideIs xs m) (h0 : gi xs 0 = m) : ∀ p, 1 ≤ p → p < 26 → gi xs p = 0 := by
  intro p p1 p2
  have hn := side_gi h (p := p) (by omega) p2
  have h1 := side_set h (p := 0) (v := 0) (by omega) (by omega) (by omega)
  have hm := gi_mem (xs := si xs 0 0) (i := p) (by rw [h1.len]; omega) (by omega)
  have hle := mem_le_sum _ h1.nn _ hm
  rw [h1.sum, gi_si (by omega) (by rw [h.len]; omega) (by omega), if_neg (by omega), h0] at hle
  omega
theorem boardV_is (ns : List Int) (t : Nat) {most : Int} (h1 : 1 ≤ most) (h2 : most ≤ 15) : isBoard (boardV ns t most).1 (boardV ns t most).2.1 = true ∧ (boardV ns t most).1.sum ≤ most ∧ (boardV ns t most).2.2 ≤ t + 1 + 4 * most.toNat := by
  have hd := drawV_b ns t (n := most) (by omega)
  unfold boardV
  generalize hm : 1 + drawV ns t most = m
  have hm1 : 1 ≤ m ∧ m ≤ most := by omega
  obtain ⟨k, rfl⟩ : ∃ k : Nat, m = k := ⟨m.toNat, by omega⟩
  rw [Int.toNat_natCast]
  obtain ⟨a1, a2, a3⟩ := mineV_is ns (t + 1) k
  generalize hA : mineV ns (t + 1) k = A at *
  obtain ⟨b1, b2, b3, b4⟩ := theirsV_is ns A.1 A.2 k
  generalize hB : theirsV ns A.1 A.2 k = B at *
  have sb : isSide B.1 = true := isSide_iff.mpr ⟨b1.len, b1.nn, by rw [b1.sum]; omega, by rw [b1.sum]; omega⟩
  unfold boardF
  by_cases c : gi A.1 0 = k ∧ gi B.1 0 = k
  · simp only [if_pos c]
    have s1 := side_set a1 (p := 0) (v := (k : Int) - 1) (by omega) (by omega) (by omega)
    have s2 := side_set s1 (p := 25) (v := 1) (by omega) (by omega) (by omega)
    have z25 := all_off a1 c.1 25 (by omega) (by omega)
    have g25 : gi (si A.1 0 ((k : Int) - 1)) 25 = 0 := by rw [gi_si (by omega) (by rw [a1.len]; omega) (by omega), if_neg (by omega), z25]
    rw [g25, c.1] at s2
    have e : (k : Int) + (k - 1) - k + 1 - 0 = k := by omega
    rw [e] at s2
    refine ⟨isBoard_iff.mpr ⟨isSide_iff.mpr ⟨s2.len, s2.nn, by rw [s2.sum]; omega, by rw [s2.sum]; omega⟩, sb, by rw [s2.sum, b1.sum], fun p p1 p2 hh => ?_, fun hh => ?_⟩, by rw [s2.sum]; omega, by omega⟩
    · have := all_off b1 c.2 (25 - p) (by omega) (by omega)
      omega
    · have h0 := hh.1
      rw [s2.sum, gi_si (by omega) (by rw [s1.len]; omega) (by omega), if_neg (by omega), gi_si (by omega) (by rw [a1.len]; omega) (by omega), if_pos rfl] at h0
      omega
  · simp only [if_neg c]
    refine ⟨isBoard_iff.mpr ⟨isSide_iff.mpr ⟨a1.len, a1.nn, by rw [a1.sum]; omega, by rw [a1.sum]; omega⟩, sb, by rw [a1.sum, b1.sum], fun p p1 p2 hh => ?_, fun hh => ?_⟩, by rw [a1.sum]; omega, by omega⟩
    · have := b4 (25 - p) (by omega) (by omega) hh.2
      have e : 25 - (25 - p) = p := by omega
      rw [e] at this
      omega
    · rw [a1.sum, b1.sum] at hh
      exact c hh
theorem lb_mine (ns : List Int) (d t : Nat) (ht : t < 800) (i : Nat) (hi : i ≤ 15) (a : List Int) (la : a.length = 26) (b : MO) (v2 v3 v6 v7 v8 : Option Rv) (μ : Mu) :
    evS (C ns (d + 4)) s__law_board_3_0 [some .scr, some (.o 0), v2, v3, some (.o (μ.length + 1)), some (.o (μ.length + 2)), v6, v7, v8] (town t :: (μ ++ [.lst (a.map .int), b])) = .ok (.nx [some .scr, some (.o 0), v2, v3, some (.o (μ.length + 1)), some (.o (μ.length + 2)), v6, v7, v8]) (town (placeV ns t).2 :: (μ ++ [.lst ((inc a (placeV ns t).1).map .int), b])) := by
  obtain ⟨p1, p2, p3, p4⟩ := placeV_b ns t
  have hp := fn_place ns d t (μ ++ [.lst (a.map .int), b]) (by omega)
  generalize hpp : placeV ns t = p at *
  have hk : (town p.2 :: (μ ++ [.lst (a.map .int), b]))[μ.length + 1]? = some (.lst (a.map .int)) := by
    rw [List.getElem?_cons_succ, v_g0]; rfl
  have g1 : ∀ f : Nat → Int → Int → Out Fl, augR1 (.o (μ.length + 1)) (.p (.int p.1)) (town p.2 :: (μ ++ [.lst (a.map .int), b])) f = f (μ.length + 1) p.1 (gi a p.1) := fun f => v_a1 hk p1 (by rw [la]; omega)
  have g2 : ∀ ρ : Env, augR2 .Add (μ.length + 1) p.1 (gi a p.1) (.p (.int 1)) ρ (town p.2 :: (μ ++ [.lst (a.map .int), b])) = _ := fun ρ => v_a2 hk p1 (by rw [la]; omega)
  simp only [s__law_board_3_0, hp, g1, g2, inc, List.length_map, ups_len, downs_len, Int.cast_ofNat_Int, List.take_length, Nat.add_assoc, big, v_ix0, v_ix1, v_ix2, v_ix3, v_il0, v_il1, v_in0, v_in1, v_in2, v_tg2, v_sum_ti, v_sum_li, v_len_ti, v_eq_nil, v_ne_nil, v_eq_sd, v_ne_sd, tx_inj, v_in_li, v_eq_li, v_ne_li, v_eq_bd, v_ne_bd, eq_self, and_self, or_self, Int.reduceAdd, Int.reduceSub, Int.reduceMul, Int.reduceNeg, Int.reduceLT, Int.reduceLE, Int.reduceEq, Int.reduceNe, Nat.reduceLeDiff, Nat.reduceLT, decide_true, decide_false, Bool.not_not, ite_true, ite_false, Bool.true_eq_false, Bool.false_eq_true, Bool.and_true, Bool.true_and, Bool.and_false, Bool.false_and, Bool.or_true, Bool.true_or, Bool.or_false, Bool.false_or, Bool.false_eq_true, if_false, if_true, reduceIte, List.getElem?_cons_zero, List.getElem?_cons_succ, List.set_cons_zero, List.set_cons_succ, List.map_cons, List.map_nil, List.length_cons, List.length_nil, List.cons_append, List.nil_append, List.replicate_succ, List.replicate_zero, Nat.reduceAdd, Nat.reduceSub, Bool.not_true, Bool.not_false, decide_true, decide_false, Option.map_some, List.take_succ_cons, List.take_zero, v_g0, v_gk, v_s0, v_sk, v_tk, cl_isx, cl_sub, List.append_assoc, List.length_append, evSs, evS, evE, evAs, evFs, evIs, evB, evO, evIf, cl_scr, Out.bind_ok, Out.bind_exc, Out.bind_bad, R.wipe, v_onP_p, v_onP_n, v_onP_o, v_onP_f, v_int, v_bl, v_str, v_data, v_seq, v_obj, v_ix, v_of, v_retT, v_retT_b, v_retT_s, v_retT_l, v_retB, v_retB_b, v_add, v_sub, v_mul, v_mod, v_fdiv, v_pow, v_addl, v_addt, v_adds, v_mull, v_mult, v_lt, v_le, v_gt, v_ge, v_eq, v_ne, v_eqs, v_nes, v_isN, v_isNN, v_ltt, v_binR, v_frz_p, v_frz_n, v_pop_p, v_pop_n, v_sto_p, v_sto_n, v_sto_t, v_sto_o, v_lst, v_tup, v_lenR, v_len_s, v_bi_p, v_bi_n, v_bi_o, v_len_l, v_len_t, v_sum_l, v_sum_t, v_all, v_any, v_min_t, v_max_t, v_min_l, v_max_l, v_list_l, v_list_t, v_tuple_l, v_tuple_t, v_idx_t, v_idx_l, v_idx_n, v_idx_o, v_idx_s, v_tg1, v_app, v_seti, v_thn_n, v_thn_r, v_okB, v_noexc, v_arg_p, v_arg_n, v_arg_o, v_arg_s]
theorem lb_theirs (ns : List Int) (d t : Nat) (ht : t < 800) (a b : List Int) (la : a.length = 26) (lb : b.length = 26) (v2 v3 v6 v7 v8 : Option Rv) (μ : Mu) :
    ∃ v7' v8', evSs (C ns (d + 4)) [s__law_board_4_0, s__law_board_4_1, s__law_board_4_2] [some .scr, some (.o 0), v2, v3, some (.o (μ.length + 1)), some (.o (μ.length + 2)), v6, v7, v8] (town t :: (μ ++ [.lst (a.map .int), .lst (b.map .int)])) = .ok (.nx [some .scr, some (.o 0), v2, v3, some (.o (μ.length + 1)), some (.o (μ.length + 2)), v6, v7', v8']) (town (placeV ns t).2 :: (μ ++ [.lst (a.map .int), .lst ((inc b (freeV a (placeV ns t).1)).map .int)])) := by
  obtain ⟨p1, p2, p3, p4⟩ := placeV_b ns t
  have hp := fn_place ns d t (μ ++ [.lst (a.map .int), .lst (b.map .int)]) (by omega)
  generalize hpp : placeV ns t = p at *
  have hka : (town p.2 :: (μ ++ [.lst (a.map .int), .lst (b.map .int)]))[μ.length + 1]? = some (.lst (a.map .int)) := by
    rw [List.getElem?_cons_succ, v_g0]; rfl
  have hkb : (town p.2 :: (μ ++ [.lst (a.map .int), .lst (b.map .int)]))[μ.length + 2]? = some (.lst (b.map .int)) := by
    rw [List.getElem?_cons_succ, v_gk]; rfl
  have put : ∀ q : Int, 0 ≤ q → q ≤ 25 → (∀ f : Nat → Int → Int → Out Fl, augR1 (.o (μ.length + 2)) (.p (.int q)) (town p.2 :: (μ ++ [.lst (a.map .int), .lst (b.map .int)])) f = f (μ.length + 2) q (gi b q)) ∧ ∀ ρ : Env, augR2 .Add (μ.length + 2) q (gi b q) (.p (.int 1)) ρ (town p.2 :: (μ ++ [.lst (a.map .int), .lst (b.map .int)])) = .ok (.nx ρ) ((town p.2 :: (μ ++ [.lst (a.map .int), .lst (b.map .int)])).set (μ.length + 2) (.lst ((inc b q).map .int))) := fun q q1 q2 => ⟨fun f => v_a1 hkb q1 (by rw [lb]; omega), fun ρ => v_a2 hkb q1 (by rw [lb]; omega)⟩
  by_cases c : 1 ≤ p.1 ∧ p.1 ≤ 24
  · have g : idxR ns (.o (μ.length + 1)) (.p (.int (25 - p.1))) (town p.2 :: (μ ++ [.lst (a.map .int), .lst (b.map .int)])) = _ := v_so hka (by omega) (by rw [la]; omega)
    have c1 : decide (1 ≤ p.1) = true := decide_eq_true c.1
    have c2 : decide (p.1 ≤ 24) = true := decide_eq_true c.2
    by_cases e : gi a (25 - p.1) = 0
    · have de : decide (gi a (25 - p.1) = 0) = true := decide_eq_true e
      obtain ⟨g1, g2⟩ := put p.1 p1 p2
      have hf : freeV a p.1 = p.1 := if_neg fun h => h.2 e
      refine ⟨some (.p (.int p.1)), some (.p (.bl true)), ?_⟩
      simp only [s__law_board_4_0, s__law_board_4_1, s__law_board_4_2, hp, c1, c2, g, de, g1, g2, hf, List.length_map, ups_len, downs_len, Int.cast_ofNat_Int, List.take_length, Nat.add_assoc, big, v_ix0, v_ix1, v_ix2, v_ix3, v_il0, v_il1, v_in0, v_in1, v_in2, v_tg2, v_sum_ti, v_sum_li, v_len_ti, v_eq_nil, v_ne_nil, v_eq_sd, v_ne_sd, tx_inj, v_in_li, v_eq_li, v_ne_li, v_eq_bd, v_ne_bd, eq_self, and_self, or_self, Int.reduceAdd, Int.reduceSub, Int.reduceMul, Int.reduceNeg, Int.reduceLT, Int.reduceLE, Int.reduceEq, Int.reduceNe, Nat.reduceLeDiff, Nat.reduceLT, decide_true, decide_false, Bool.not_not, ite_true, ite_false, Bool.true_eq_false, Bool.false_eq_true, Bool.and_true, Bool.true_and, Bool.and_false, Bool.false_and, Bool.or_true, Bool.true_or, Bool.or_false, Bool.false_or, Bool.false_eq_true, if_false, if_true, reduceIte, List.getElem?_cons_zero, List.getElem?_cons_succ, List.set_cons_zero, List.set_cons_succ, List.map_cons, List.map_nil, List.length_cons, List.length_nil, List.cons_append, List.nil_append, List.replicate_succ, List.replicate_zero, Nat.reduceAdd, Nat.reduceSub, Bool.not_true, Bool.not_false, decide_true, decide_false, Option.map_some, List.take_succ_cons, List.take_zero, v_g0, v_gk, v_s0, v_sk, v_tk, cl_isx, cl_sub, List.append_assoc, List.length_append, evSs, evS, evE, evAs, evFs, evIs, evB, evO, evIf, cl_scr, Out.bind_ok, Out.bind_exc, Out.bind_bad, R.wipe, v_onP_p, v_onP_n, v_onP_o, v_onP_f, v_int, v_bl, v_str, v_data, v_seq, v_obj, v_ix, v_of, v_retT, v_retT_b, v_retT_s, v_retT_l, v_retB, v_retB_b, v_add, v_sub, v_mul, v_mod, v_fdiv, v_pow, v_addl, v_addt, v_adds, v_mull, v_mult, v_lt, v_le, v_gt, v_ge, v_eq, v_ne, v_eqs, v_nes, v_isN, v_isNN, v_ltt, v_binR, v_frz_p, v_frz_n, v_pop_p, v_pop_n, v_sto_p, v_sto_n, v_sto_t, v_sto_o, v_lst, v_tup, v_lenR, v_len_s, v_bi_p, v_bi_n, v_bi_o, v_len_l, v_len_t, v_sum_l, v_sum_t, v_all, v_any, v_min_t, v_max_t, v_min_l, v_max_l, v_list_l, v_list_t, v_tuple_l, v_tuple_t, v_idx_t, v_idx_l, v_idx_n, v_idx_o, v_idx_s, v_tg1, v_app, v_seti, v_thn_n, v_thn_r, v_okB, v_noexc, v_arg_p, v_arg_n, v_arg_o, v_arg_s]
    · have de : decide (gi a (25 - p.1) = 0) = false := decide_eq_false e
      obtain ⟨g1, g2⟩ := put 0 (by omega) (by omega)
      have hf : freeV a p.1 = 0 := if_pos ⟨c, e⟩
      refine ⟨some (.p (.int p.1)), some (.p (.bl false)), ?_⟩
      simp only [s__law_board_4_0, s__law_board_4_1, s__law_board_4_2, hp, c1, c2, g, de, g1, g2, hf, List.length_map, ups_len, downs_len, Int.cast_ofNat_Int, List.take_length, Nat.add_assoc, big, v_ix0, v_ix1, v_ix2, v_ix3, v_il0, v_il1, v_in0, v_in1, v_in2, v_tg2, v_sum_ti, v_sum_li, v_len_ti, v_eq_nil, v_ne_nil, v_eq_sd, v_ne_sd, tx_inj, v_in_li, v_eq_li, v_ne_li, v_eq_bd, v_ne_bd, eq_self, and_self, or_self, Int.reduceAdd, Int.reduceSub, Int.reduceMul, Int.reduceNeg, Int.reduceLT, Int.reduceLE, Int.reduceEq, Int.reduceNe, Nat.reduceLeDiff, Nat.reduceLT, decide_true, decide_false, Bool.not_not, ite_true, ite_false, Bool.true_eq_false, Bool.false_eq_true, Bool.and_true, Bool.true_and, Bool.and_false, Bool.false_and, Bool.or_true, Bool.true_or, Bool.or_false, Bool.false_or, Bool.false_eq_true, if_false, if_true, reduceIte, List.getElem?_cons_zero, List.getElem?_cons_succ, List.set_cons_zero, List.set_cons_succ, List.map_cons, List.map_nil, List.length_cons, List.length_nil, List.cons_append, List.nil_append, List.replicate_succ, List.replicate_zero, Nat.reduceAdd, Nat.reduceSub, Bool.not_true, Bool.not_false, decide_true, decide_false, Option.map_some, List.take_succ_cons, List.take_zero, v_g0, v_gk, v_s0, v_sk, v_tk, cl_isx, cl_sub, List.append_assoc, List.length_append, evSs, evS, evE, evAs, evFs, evIs, evB, evO, evIf, cl_scr, Out.bind_ok, Out.bind_exc, Out.bind_bad, R.wipe, v_onP_p, v_onP_n, v_onP_o, v_onP_f, v_int, v_bl, v_str, v_data, v_seq, v_obj, v_ix, v_of, v_retT, v_retT_b, v_retT_s, v_retT_l, v_retB, v_retB_b, v_add, v_sub, v_mul, v_mod, v_fdiv, v_pow, v_addl, v_addt, v_adds, v_mull, v_mult, v_lt, v_le, v_gt, v_ge, v_eq, v_ne, v_eqs, v_nes, v_isN, v_isNN, v_ltt, v_binR, v_frz_p, v_frz_n, v_pop_p, v_pop_n, v_sto_p, v_sto_n, v_sto_t, v_sto_o, v_lst, v_tup, v_lenR, v_len_s, v_bi_p, v_bi_n, v_bi_o, v_len_l, v_len_t, v_sum_l, v_sum_t, v_all, v_any, v_min_t, v_max_t, v_min_l, v_max_l, v_list_l, v_list_t, v_tuple_l, v_tuple_t, v_idx_t, v_idx_l, v_idx_n, v_idx_o, v_idx_s, v_tg1, v_app, v_seti, v_thn_n, v_thn_r, v_okB, v_noexc, v_arg_p, v_arg_n, v_arg_o, v_arg_s]
  · obtain ⟨g1, g2⟩ := put p.1 p1 p2
    have hf : freeV a p.1 = p.1 := if_neg fun h => c h.1
    refine ⟨some (.p (.int p.1)), some (.p (.bl true)), ?_⟩
    by_cases c1 : 1 ≤ p.1
    · have d1 : decide (1 ≤ p.1) = true := decide_eq_true c1
      have d2 : decide (p.1 ≤ 24) = false := decide_eq_false fun h => c ⟨c1, h⟩
      simp only [s__law_board_4_0, s__law_board_4_1, s__law_board_4_2, hp, d1, d2, g1, g2, hf, List.length_map, ups_len, downs_len, Int.cast_ofNat_Int, List.take_length, Nat.add_assoc, big, v_ix0, v_ix1, v_ix2, v_ix3, v_il0, v_il1, v_in0, v_in1, v_in2, v_tg2, v_sum_ti, v_sum_li, v_len_ti, v_eq_nil, v_ne_nil, v_eq_sd, v_ne_sd, tx_inj, v_in_li, v_eq_li, v_ne_li, v_eq_bd, v_ne_bd, eq_self, and_self, or_self, Int.reduceAdd, Int.reduceSub, Int.reduceMul, Int.reduceNeg, Int.reduceLT, Int.reduceLE, Int.reduceEq, Int.reduceNe, Nat.reduceLeDiff, Nat.reduceLT, decide_true, decide_false, Bool.not_not, ite_true, ite_false, Bool.true_eq_false, Bool.false_eq_true, Bool.and_true, Bool.true_and, Bool.and_false, Bool.false_and, Bool.or_true, Bool.true_or, Bool.or_false, Bool.false_or, Bool.false_eq_true, if_false, if_true, reduceIte, List.getElem?_cons_zero, List.getElem?_cons_succ, List.set_cons_zero, List.set_cons_succ, List.map_cons, List.map_nil, List.length_cons, List.length_nil, List.cons_append, List.nil_append, List.replicate_succ, List.replicate_zero, Nat.reduceAdd, Nat.reduceSub, Bool.not_true, Bool.not_false, decide_true, decide_false, Option.map_some, List.take_succ_cons, List.take_zero, v_g0, v_gk, v_s0, v_sk, v_tk, cl_isx, cl_sub, List.append_assoc, List.length_append, evSs, evS, evE, evAs, evFs, evIs, evB, evO, evIf, cl_scr, Out.bind_ok, Out.bind_exc, Out.bind_bad, R.wipe, v_onP_p, v_onP_n, v_onP_o, v_onP_f, v_int, v_bl, v_str, v_data, v_seq, v_obj, v_ix, v_of, v_retT, v_retT_b, v_retT_s, v_retT_l, v_retB, v_retB_b, v_add, v_sub, v_mul, v_mod, v_fdiv, v_pow, v_addl, v_addt, v_adds, v_mull, v_mult, v_lt, v_le, v_gt, v_ge, v_eq, v_ne, v_eqs, v_nes, v_isN, v_isNN, v_ltt, v_binR, v_frz_p, v_frz_n, v_pop_p, v_pop_n, v_sto_p, v_sto_n, v_sto_t, v_sto_o, v_lst, v_tup, v_lenR, v_len_s, v_bi_p, v_bi_n, v_bi_o, v_len_l, v_len_t, v_sum_l, v_sum_t, v_all, v_any, v_min_t, v_max_t, v_min_l, v_max_l, v_list_l, v_list_t, v_tuple_l, v_tuple_t, v_idx_t, v_idx_l, v_idx_n, v_idx_o, v_idx_s, v_tg1, v_app, v_seti, v_thn_n, v_thn_r, v_okB, v_noexc, v_arg_p, v_arg_n, v_arg_o, v_arg_s]
    · have d1 : decide (1 ≤ p.1) = false := decide_eq_false c1
      simp only [s__law_board_4_0, s__law_board_4_1, s__law_board_4_2, hp, d1, g1, g2, hf, List.length_map, ups_len, downs_len, Int.cast_ofNat_Int, List.take_length, Nat.add_assoc, big, v_ix0, v_ix1, v_ix2, v_ix3, v_il0, v_il1, v_in0, v_in1, v_in2, v_tg2, v_sum_ti, v_sum_li, v_len_ti, v_eq_nil, v_ne_nil, v_eq_sd, v_ne_sd, tx_inj, v_in_li, v_eq_li, v_ne_li, v_eq_bd, v_ne_bd, eq_self, and_self, or_self, Int.reduceAdd, Int.reduceSub, Int.reduceMul, Int.reduceNeg, Int.reduceLT, Int.reduceLE, Int.reduceEq, Int.reduceNe, Nat.reduceLeDiff, Nat.reduceLT, decide_true, decide_false, Bool.not_not, ite_true, ite_false, Bool.true_eq_false, Bool.false_eq_true, Bool.and_true, Bool.true_and, Bool.and_false, Bool.false_and, Bool.or_true, Bool.true_or, Bool.or_false, Bool.false_or, Bool.false_eq_true, if_false, if_true, reduceIte, List.getElem?_cons_zero, List.getElem?_cons_succ, List.set_cons_zero, List.set_cons_succ, List.map_cons, List.map_nil, List.length_cons, List.length_nil, List.cons_append, List.nil_append, List.replicate_succ, List.replicate_zero, Nat.reduceAdd, Nat.reduceSub, Bool.not_true, Bool.not_false, decide_true, decide_false, Option.map_some, List.take_succ_cons, List.take_zero, v_g0, v_gk, v_s0, v_sk, v_tk, cl_isx, cl_sub, List.append_assoc, List.length_append, evSs, evS, evE, evAs, evFs, evIs, evB, evO, evIf, cl_scr, Out.bind_ok, Out.bind_exc, Out.bind_bad, R.wipe, v_onP_p, v_onP_n, v_onP_o, v_onP_f, v_int, v_bl, v_str, v_data, v_seq, v_obj, v_ix, v_of, v_retT, v_retT_b, v_retT_s, v_retT_l, v_retB, v_retB_b, v_add, v_sub, v_mul, v_mod, v_fdiv, v_pow, v_addl, v_addt, v_adds, v_mull, v_mult, v_lt, v_le, v_gt, v_ge, v_eq, v_ne, v_eqs, v_nes, v_isN, v_isNN, v_ltt, v_binR, v_frz_p, v_frz_n, v_pop_p, v_pop_n, v_sto_p, v_sto_n, v_sto_t, v_sto_o, v_lst, v_tup, v_lenR, v_len_s, v_bi_p, v_bi_n, v_bi_o, v_len_l, v_len_t, v_sum_l, v_sum_t, v_all, v_any, v_min_t, v_max_t, v_min_l, v_max_l, v_list_l, v_list_t, v_tuple_l, v_tuple_t, v_idx_t, v_idx_l, v_idx_n, v_idx_o, v_idx_s, v_tg1, v_app, v_seti, v_thn_n, v_thn_r, v_okB, v_noexc, v_arg_p, v_arg_n, v_arg_o, v_arg_s]
theorem fn_board (ns : List Int) (d t : Nat) (ht : t < 700) {most : Int} (h1 : 1 ≤ most) (h2 : most ≤ 15) (μ : Mu) : (C ns (d + 5)).fn 15 [.scr, .o 0, .p (.int most)] (town t :: μ) = .ok (.p (bd (boardV ns t most).1 (boardV ns t most).2.1)) (town (boardV ns t most).2.2 :: μ) := by
  rw [cl_fn (f := f__law_board) rfl]
  have hd := drawV_b ns t (n := most) (by omega)
  have hdr := fn_draw ns (d + 1) t most μ (by omega) (by omega)
  unfold boardV
  generalize hm : 1 + drawV ns t most = m
  have hm1 : 1 ≤ m ∧ m ≤ most := by omega
  obtain ⟨k, rfl⟩ : ∃ k : Nat, m = k := ⟨m.toNat, by omega⟩
  rw [Int.toNat_natCast]
  have S0 : evS (C ns (d + 4)) s__law_board_0 [some .scr, some (.o 0), some (.p (.int most)), none, none, none, none, none, none] (town t :: μ) = .ok (.nx [some .scr, some (.o 0), some (.p (.int most)), some (.p (.int k)), none, none, none, none, none]) (town (t + 1) :: μ) := by
    simp only [s__law_board_0, hdr, hm, List.length_map, ups_len, downs_len, Int.cast_ofNat_Int, List.take_length, Nat.add_assoc, big, v_ix0, v_ix1, v_ix2, v_ix3, v_il0, v_il1, v_in0, v_in1, v_in2, v_tg2, v_sum_ti, v_sum_li, v_len_ti, v_eq_nil, v_ne_nil, v_eq_sd, v_ne_sd, tx_inj, v_in_li, v_eq_li, v_ne_li, v_eq_bd, v_ne_bd, eq_self, and_self, or_self, Int.reduceAdd, Int.reduceSub, Int.reduceMul, Int.reduceNeg, Int.reduceLT, Int.reduceLE, Int.reduceEq, Int.reduceNe, Nat.reduceLeDiff, Nat.reduceLT, decide_true, decide_false, Bool.not_not, ite_true, ite_false, Bool.true_eq_false, Bool.false_eq_true, Bool.and_true, Bool.true_and, Bool.and_false, Bool.false_and, Bool.or_true, Bool.true_or, Bool.or_false, Bool.false_or, Bool.false_eq_true, if_false, if_true, reduceIte, List.getElem?_cons_zero, List.getElem?_cons_succ, List.set_cons_zero, List.set_cons_succ, List.map_cons, List.map_nil, List.length_cons, List.length_nil, List.cons_append, List.nil_append, List.replicate_succ, List.replicate_zero, Nat.reduceAdd, Nat.reduceSub, Bool.not_true, Bool.not_false, decide_true, decide_false, Option.map_some, List.take_succ_cons, List.take_zero, v_g0, v_gk, v_s0, v_sk, v_tk, cl_isx, cl_sub, List.append_assoc, List.length_append, evSs, evS, evE, evAs, evFs, evIs, evB, evO, evIf, cl_scr, Out.bind_ok, Out.bind_exc, Out.bind_bad, R.wipe, v_onP_p, v_onP_n, v_onP_o, v_onP_f, v_int, v_bl, v_str, v_data, v_seq, v_obj, v_ix, v_of, v_retT, v_retT_b, v_retT_s, v_retT_l, v_retB, v_retB_b, v_add, v_sub, v_mul, v_mod, v_fdiv, v_pow, v_addl, v_addt, v_adds, v_mull, v_mult, v_lt, v_le, v_gt, v_ge, v_eq, v_ne, v_eqs, v_nes, v_isN, v_isNN, v_ltt, v_binR, v_frz_p, v_frz_n, v_pop_p, v_pop_n, v_sto_p, v_sto_n, v_sto_t, v_sto_o, v_lst, v_tup, v_lenR, v_len_s, v_bi_p, v_bi_n, v_bi_o, v_len_l, v_len_t, v_sum_l, v_sum_t, v_all, v_any, v_min_t, v_max_t, v_min_l, v_max_l, v_list_l, v_list_t, v_tuple_l, v_tuple_t, v_idx_t, v_idx_l, v_idx_n, v_idx_o, v_idx_s, v_tg1, v_app, v_seti, v_thn_n, v_thn_r, v_okB, v_noexc, v_arg_p, v_arg_n, v_arg_o, v_arg_s]
  have S1 : evS (C ns (d + 4)) s__law_board_1 [some .scr, some (.o 0), some (.p (.int most)), some (.p (.int k)), none, none, none, none, none] (town (t + 1) :: μ) = .ok (.nx [some .scr, some (.o 0), some (.p (.int most)), some (.p (.int k)), some (.o (μ.length + 1)), none, none, none, none]) (town (t + 1) :: (μ ++ [.lst (z26.map .int)])) := by
    simp only [s__law_board_1, mul_26, z26, List.length_map, ups_len, downs_len, Int.cast_ofNat_Int, List.take_length, Nat.add_assoc, big, v_ix0, v_ix1, v_ix2, v_ix3, v_il0, v_il1, v_in0, v_in1, v_in2, v_tg2, v_sum_ti, v_sum_li, v_len_ti, v_eq_nil, v_ne_nil, v_eq_sd, v_ne_sd, tx_inj, v_in_li, v_eq_li, v_ne_li, v_eq_bd, v_ne_bd, eq_self, and_self, or_self, Int.reduceAdd, Int.reduceSub, Int.reduceMul, Int.reduceNeg, Int.reduceLT, Int.reduceLE, Int.reduceEq, Int.reduceNe, Nat.reduceLeDiff, Nat.reduceLT, decide_true, decide_false, Bool.not_not, ite_true, ite_false, Bool.true_eq_false, Bool.false_eq_true, Bool.and_true, Bool.true_and, Bool.and_false, Bool.false_and, Bool.or_true, Bool.true_or, Bool.or_false, Bool.false_or, Bool.false_eq_true, if_false, if_true, reduceIte, List.getElem?_cons_zero, List.getElem?_cons_succ, List.set_cons_zero, List.set_cons_succ, List.map_cons, List.map_nil, List.length_cons, List.length_nil, List.cons_append, List.nil_append, List.replicate_succ, List.replicate_zero, Nat.reduceAdd, Nat.reduceSub, Bool.not_true, Bool.not_false, decide_true, decide_false, Option.map_some, List.take_succ_cons, List.take_zero, v_g0, v_gk, v_s0, v_sk, v_tk, cl_isx, cl_sub, List.append_assoc, List.length_append, evSs, evS, evE, evAs, evFs, evIs, evB, evO, evIf, cl_scr, Out.bind_ok, Out.bind_exc, Out.bind_bad, R.wipe, v_onP_p, v_onP_n, v_onP_o, v_onP_f, v_int, v_bl, v_str, v_data, v_seq, v_obj, v_ix, v_of, v_retT, v_retT_b, v_retT_s, v_retT_l, v_retB, v_retB_b, v_add, v_sub, v_mul, v_mod, v_fdiv, v_pow, v_addl, v_addt, v_adds, v_mull, v_mult, v_lt, v_le, v_gt, v_ge, v_eq, v_ne, v_eqs, v_nes, v_isN, v_isNN, v_ltt, v_binR, v_frz_p, v_frz_n, v_pop_p, v_pop_n, v_sto_p, v_sto_n, v_sto_t, v_sto_o, v_lst, v_tup, v_lenR, v_len_s, v_bi_p, v_bi_n, v_bi_o, v_len_l, v_len_t, v_sum_l, v_sum_t, v_all, v_any, v_min_t, v_max_t, v_min_l, v_max_l, v_list_l, v_list_t, v_tuple_l, v_tuple_t, v_idx_t, v_idx_l, v_idx_n, v_idx_o, v_idx_s, v_tg1, v_app, v_seti, v_thn_n, v_thn_r, v_okB, v_noexc, v_arg_p, v_arg_n, v_arg_o, v_arg_s]
  have S2 : evS (C ns (d + 4)) s__law_board_2 [some .scr, some (.o 0), some (.p (.int most)), some (.p (.int k)), some (.o (μ.length + 1)), none, none, none, none] (town (t + 1) :: (μ ++ [.lst (z26.map .int)])) = .ok (.nx [some .scr, some (.o 0), some (.p (.int most)), some (.p (.int k)), some (.o (μ.length + 1)), some (.o (μ.length + 2)), none, none, none]) (town (t + 1) :: (μ ++ [.lst (z26.map .int), .lst (z26.map .int)])) := by
    simp only [s__law_board_2, mul_26, z26, List.length_map, ups_len, downs_len, Int.cast_ofNat_Int, List.take_length, Nat.add_assoc, big, v_ix0, v_ix1, v_ix2, v_ix3, v_il0, v_il1, v_in0, v_in1, v_in2, v_tg2, v_sum_ti, v_sum_li, v_len_ti, v_eq_nil, v_ne_nil, v_eq_sd, v_ne_sd, tx_inj, v_in_li, v_eq_li, v_ne_li, v_eq_bd, v_ne_bd, eq_self, and_self, or_self, Int.reduceAdd, Int.reduceSub, Int.reduceMul, Int.reduceNeg, Int.reduceLT, Int.reduceLE, Int.reduceEq, Int.reduceNe, Nat.reduceLeDiff, Nat.reduceLT, decide_true, decide_false, Bool.not_not, ite_true, ite_false, Bool.true_eq_false, Bool.false_eq_true, Bool.and_true, Bool.true_and, Bool.and_false, Bool.false_and, Bool.or_true, Bool.true_or, Bool.or_false, Bool.false_or, Bool.false_eq_true, if_false, if_true, reduceIte, List.getElem?_cons_zero, List.getElem?_cons_succ, List.set_cons_zero, List.set_cons_succ, List.map_cons, List.map_nil, List.length_cons, List.length_nil, List.cons_append, List.nil_append, List.replicate_succ, List.replicate_zero, Nat.reduceAdd, Nat.reduceSub, Bool.not_true, Bool.not_false, decide_true, decide_false, Option.map_some, List.take_succ_cons, List.take_zero, v_g0, v_gk, v_s0, v_sk, v_tk, cl_isx, cl_sub, List.append_assoc, List.length_append, evSs, evS, evE, evAs, evFs, evIs, evB, evO, evIf, cl_scr, Out.bind_ok, Out.bind_exc, Out.bind_bad, R.wipe, v_onP_p, v_onP_n, v_onP_o, v_onP_f, v_int, v_bl, v_str, v_data, v_seq, v_obj, v_ix, v_of, v_retT, v_retT_b, v_retT_s, v_retT_l, v_retB, v_retB_b, v_add, v_sub, v_mul, v_mod, v_fdiv, v_pow, v_addl, v_addt, v_adds, v_mull, v_mult, v_lt, v_le, v_gt, v_ge, v_eq, v_ne, v_eqs, v_nes, v_isN, v_isNN, v_ltt, v_binR, v_frz_p, v_frz_n, v_pop_p, v_pop_n, v_sto_p, v_sto_n, v_sto_t, v_sto_o, v_lst, v_tup, v_lenR, v_len_s, v_bi_p, v_bi_n, v_bi_o, v_len_l, v_len_t, v_sum_l, v_sum_t, v_all, v_any, v_min_t, v_max_t, v_min_l, v_max_l, v_list_l, v_list_t, v_tuple_l, v_tuple_t, v_idx_t, v_idx_l, v_idx_n, v_idx_o, v_idx_s, v_tg1, v_app, v_seti, v_thn_n, v_thn_r, v_okB, v_noexc, v_arg_p, v_arg_n, v_arg_o, v_arg_s]
  obtain ⟨ρ3, μ3, S3, rfl, v6, rfl⟩ : ∃ ρ' μ', evS (C ns (d + 4)) s__law_board_3 [some .scr, some (.o 0), some (.p (.int most)), some (.p (.int k)), some (.o (μ.length + 1)), some (.o (μ.length + 2)), none, none, none] (town (t + 1) :: (μ ++ [.lst (z26.map .int), .lst (z26.map .int)])) = .ok (.nx ρ') μ' ∧ μ' = town (mineV ns (t + 1) k).2 :: (μ ++ [.lst ((mineV ns (t + 1) k).1.map .int), .lst (z26.map .int)]) ∧ ∃ v6, ρ' = [some .scr, some (.o 0), some (.p (.int most)), some (.p (.int k)), some (.o (μ.length + 1)), some (.o (μ.length + 2)), v6, none, none] := by
    simp only [s__law_board_3, rng_n (n := k) (by omega), List.length_map, ups_len, downs_len, Int.cast_ofNat_Int, List.take_length, Nat.add_assoc, big, v_ix0, v_ix1, v_ix2, v_ix3, v_il0, v_il1, v_in0, v_in1, v_in2, v_tg2, v_sum_ti, v_sum_li, v_len_ti, v_eq_nil, v_ne_nil, v_eq_sd, v_ne_sd, tx_inj, v_in_li, v_eq_li, v_ne_li, v_eq_bd, v_ne_bd, eq_self, and_self, or_self, Int.reduceAdd, Int.reduceSub, Int.reduceMul, Int.reduceNeg, Int.reduceLT, Int.reduceLE, Int.reduceEq, Int.reduceNe, Nat.reduceLeDiff, Nat.reduceLT, decide_true, decide_false, Bool.not_not, ite_true, ite_false, Bool.true_eq_false, Bool.false_eq_true, Bool.and_true, Bool.true_and, Bool.and_false, Bool.false_and, Bool.or_true, Bool.true_or, Bool.or_false, Bool.false_or, Bool.false_eq_true, if_false, if_true, reduceIte, List.getElem?_cons_zero, List.getElem?_cons_succ, List.set_cons_zero, List.set_cons_succ, List.map_cons, List.map_nil, List.length_cons, List.length_nil, List.cons_append, List.nil_append, List.replicate_succ, List.replicate_zero, Nat.reduceAdd, Nat.reduceSub, Bool.not_true, Bool.not_false, decide_true, decide_false, Option.map_some, List.take_succ_cons, List.take_zero, v_g0, v_gk, v_s0, v_sk, v_tk, cl_isx, cl_sub, List.append_assoc, List.length_append, evSs, evS, evE, evAs, evFs, evIs, evB, evO, evIf, cl_scr, Out.bind_ok, Out.bind_exc, Out.bind_bad, R.wipe, v_onP_p, v_onP_n, v_onP_o, v_onP_f, v_int, v_bl, v_str, v_data, v_seq, v_obj, v_ix, v_of, v_retT, v_retT_b, v_retT_s, v_retT_l, v_retB, v_retB_b, v_add, v_sub, v_mul, v_mod, v_fdiv, v_pow, v_addl, v_addt, v_adds, v_mull, v_mult, v_lt, v_le, v_gt, v_ge, v_eq, v_ne, v_eqs, v_nes, v_isN, v_isNN, v_ltt, v_binR, v_frz_p, v_frz_n, v_pop_p, v_pop_n, v_sto_p, v_sto_n, v_sto_t, v_sto_o, v_lst, v_tup, v_lenR, v_len_s, v_bi_p, v_bi_n, v_bi_o, v_len_l, v_len_t, v_sum_l, v_sum_t, v_all, v_any, v_min_t, v_max_t, v_min_l, v_max_l, v_list_l, v_list_t, v_tuple_l, v_tuple_t, v_idx_t, v_idx_l, v_idx_n, v_idx_o, v_idx_s, v_tg1, v_app, v_seti, v_thn_n, v_thn_r, v_okB, v_noexc, v_arg_p, v_arg_n, v_arg_o, v_arg_s]
    refine forL_go (ds := (ups 0 k).map .int) (n := k) (fun i ρ μ' => μ' = town (mineV ns (t + 1) i).2 :: (μ ++ [.lst ((mineV ns (t + 1) i).1.map .int), .lst (z26.map .int)]) ∧ ∃ v6, ρ = [some .scr, some (.o 0), some (.p (.int most)), some (.p (.int k)), some (.o (μ.length + 1)), some (.o (μ.length + 2)), v6, none, none]) (by rw [List.length_map, ups_len]) ⟨rfl, none, rfl⟩ ?_
    rintro i x ρ μ1 hx ⟨rfl, v6, rfl⟩
    have hi : i < k := by have := (List.getElem?_eq_some_iff.mp hx).1; simpa [ups_len] using this
    obtain ⟨q1, q2, q3⟩ := mineV_is ns (t + 1) i
    have hb := lb_mine ns d (mineV ns (t + 1) i).2 (by omega) i (by omega) (mineV ns (t + 1) i).1 q1.len (.lst (z26.map .int)) (some (.p (.int most))) (some (.p (.int k))) (some (.p x)) none none μ
    refine ⟨[some .scr, some (.o 0), some (.p (.int most)), some (.p (.int k)), some (.o (μ.length + 1)), some (.o (μ.length + 2)), some (.p x), none, none], _, ?_, rfl, some (.p x), rfl⟩
    simp only [hb, mineV, List.length_map, ups_len, downs_len, Int.cast_ofNat_Int, List.take_length, Nat.add_assoc, big, v_ix0, v_ix1, v_ix2, v_ix3, v_il0, v_il1, v_in0, v_in1, v_in2, v_tg2, v_sum_ti, v_sum_li, v_len_ti, v_eq_nil, v_ne_nil, v_eq_sd, v_ne_sd, tx_inj, v_in_li, v_eq_li, v_ne_li, v_eq_bd, v_ne_bd, eq_self, and_self, or_self, Int.reduceAdd, Int.reduceSub, Int.reduceMul, Int.reduceNeg, Int.reduceLT, Int.reduceLE, Int.reduceEq, Int.reduceNe, Nat.reduceLeDiff, Nat.reduceLT, decide_true, decide_false, Bool.not_not, ite_true, ite_false, Bool.true_eq_false, Bool.false_eq_true, Bool.and_true, Bool.true_and, Bool.and_false, Bool.false_and, Bool.or_true, Bool.true_or, Bool.or_false, Bool.false_or, Bool.false_eq_true, if_false, if_true, reduceIte, List.getElem?_cons_zero, List.getElem?_cons_succ, List.set_cons_zero, List.set_cons_succ, List.map_cons, List.map_nil, List.length_cons, List.length_nil, List.cons_append, List.nil_append, List.replicate_succ, List.replicate_zero, Nat.reduceAdd, Nat.reduceSub, Bool.not_true, Bool.not_false, decide_true, decide_false, Option.map_some, List.take_succ_cons, List.take_zero, v_g0, v_gk, v_s0, v_sk, v_tk, cl_isx, cl_sub, List.append_assoc, List.length_append, evSs, evS, evE, evAs, evFs, evIs, evB, evO, evIf, cl_scr, Out.bind_ok, Out.bind_exc, Out.bind_bad, R.wipe, v_onP_p, v_onP_n, v_onP_o, v_onP_f, v_int, v_bl, v_str, v_data, v_seq, v_obj, v_ix, v_of, v_retT, v_retT_b, v_retT_s, v_retT_l, v_retB, v_retB_b, v_add, v_sub, v_mul, v_mod, v_fdiv, v_pow, v_addl, v_addt, v_adds, v_mull, v_mult, v_lt, v_le, v_gt, v_ge, v_eq, v_ne, v_eqs, v_nes, v_isN, v_isNN, v_ltt, v_binR, v_frz_p, v_frz_n, v_pop_p, v_pop_n, v_sto_p, v_sto_n, v_sto_t, v_sto_o, v_lst, v_tup, v_lenR, v_len_s, v_bi_p, v_bi_n, v_bi_o, v_len_l, v_len_t, v_sum_l, v_sum_t, v_all, v_any, v_min_t, v_max_t, v_min_l, v_max_l, v_list_l, v_list_t, v_tuple_l, v_tuple_t, v_idx_t, v_idx_l, v_idx_n, v_idx_o, v_idx_s, v_tg1, v_app, v_seti, v_thn_n, v_thn_r, v_okB, v_noexc, v_arg_p, v_arg_n, v_arg_o, v_arg_s]
  obtain ⟨a1, a2, a3⟩ := mineV_is ns (t + 1) k
  generalize hA : mineV ns (t + 1) k = A at *
  obtain ⟨ρ4, μ4, S4, rfl, v6', v7', v8', rfl⟩ : ∃ ρ' μ', evS (C ns (d + 4)) s__law_board_4 [some .scr, some (.o 0), some (.p (.int most)), some (.p (.int k)), some (.o (μ.length + 1)), some (.o (μ.length + 2)), v6, none, none] (town A.2 :: (μ ++ [.lst (A.1.map .int), .lst (z26.map .int)])) = .ok (.nx ρ') μ' ∧ μ' = town (theirsV ns A.1 A.2 k).2 :: (μ ++ [.lst (A.1.map .int), .lst ((theirsV ns A.1 A.2 k).1.map .int)]) ∧ ∃ v6 v7 v8, ρ' = [some .scr, some (.o 0), some (.p (.int most)), some (.p (.int k)), some (.o (μ.length + 1)), some (.o (μ.length + 2)), v6, v7, v8] := by
    simp only [s__law_board_4, rng_n (n := k) (by omega), List.length_map, ups_len, downs_len, Int.cast_ofNat_Int, List.take_length, Nat.add_assoc, big, v_ix0, v_ix1, v_ix2, v_ix3, v_il0, v_il1, v_in0, v_in1, v_in2, v_tg2, v_sum_ti, v_sum_li, v_len_ti, v_eq_nil, v_ne_nil, v_eq_sd, v_ne_sd, tx_inj, v_in_li, v_eq_li, v_ne_li, v_eq_bd, v_ne_bd, eq_self, and_self, or_self, Int.reduceAdd, Int.reduceSub, Int.reduceMul, Int.reduceNeg, Int.reduceLT, Int.reduceLE, Int.reduceEq, Int.reduceNe, Nat.reduceLeDiff, Nat.reduceLT, decide_true, decide_false, Bool.not_not, ite_true, ite_false, Bool.true_eq_false, Bool.false_eq_true, Bool.and_true, Bool.true_and, Bool.and_false, Bool.false_and, Bool.or_true, Bool.true_or, Bool.or_false, Bool.false_or, Bool.false_eq_true, if_false, if_true, reduceIte, List.getElem?_cons_zero, List.getElem?_cons_succ, List.set_cons_zero, List.set_cons_succ, List.map_cons, List.map_nil, List.length_cons, List.length_nil, List.cons_append, List.nil_append, List.replicate_succ, List.replicate_zero, Nat.reduceAdd, Nat.reduceSub, Bool.not_true, Bool.not_false, decide_true, decide_false, Option.map_some, List.take_succ_cons, List.take_zero, v_g0, v_gk, v_s0, v_sk, v_tk, cl_isx, cl_sub, List.append_assoc, List.length_append, evSs, evS, evE, evAs, evFs, evIs, evB, evO, evIf, cl_scr, Out.bind_ok, Out.bind_exc, Out.bind_bad, R.wipe, v_onP_p, v_onP_n, v_onP_o, v_onP_f, v_int, v_bl, v_str, v_data, v_seq, v_obj, v_ix, v_of, v_retT, v_retT_b, v_retT_s, v_retT_l, v_retB, v_retB_b, v_add, v_sub, v_mul, v_mod, v_fdiv, v_pow, v_addl, v_addt, v_adds, v_mull, v_mult, v_lt, v_le, v_gt, v_ge, v_eq, v_ne, v_eqs, v_nes, v_isN, v_isNN, v_ltt, v_binR, v_frz_p, v_frz_n, v_pop_p, v_pop_n, v_sto_p, v_sto_n, v_sto_t, v_sto_o, v_lst, v_tup, v_lenR, v_len_s, v_bi_p, v_bi_n, v_bi_o, v_len_l, v_len_t, v_sum_l, v_sum_t, v_all, v_any, v_min_t, v_max_t, v_min_l, v_max_l, v_list_l, v_list_t, v_tuple_l, v_tuple_t, v_idx_t, v_idx_l, v_idx_n, v_idx_o, v_idx_s, v_tg1, v_app, v_seti, v_thn_n, v_thn_r, v_okB, v_noexc, v_arg_p, v_arg_n, v_arg_o, v_arg_s]
    refine forL_go (ds := (ups 0 k).map .int) (n := k) (fun i ρ μ' => μ' = town (theirsV ns A.1 A.2 i).2 :: (μ ++ [.lst (A.1.map .int), .lst ((theirsV ns A.1 A.2 i).1.map .int)]) ∧ ∃ v6 v7 v8, ρ = [some .scr, some (.o 0), some (.p (.int most)), some (.p (.int k)), some (.o (μ.length + 1)), some (.o (μ.length + 2)), v6, v7, v8]) (by rw [List.length_map, ups_len]) ⟨rfl, v6, none, none, rfl⟩ ?_
    rintro i x ρ μ1 hx ⟨rfl, v6, v7, v8, rfl⟩
    have hi : i < k := by have := (List.getElem?_eq_some_iff.mp hx).1; simpa [ups_len] using this
    obtain ⟨q1, q2, q3, q4⟩ := theirsV_is ns A.1 A.2 i
    obtain ⟨w7, w8, hb⟩ := lb_theirs ns d (theirsV ns A.1 A.2 i).2 (by omega) A.1 (theirsV ns A.1 A.2 i).1 a1.len q1.len (some (.p (.int most))) (some (.p (.int k))) (some (.p x)) v7 v8 μ
    refine ⟨[some .scr, some (.o 0), some (.p (.int most)), some (.p (.int k)), some (.o (μ.length + 1)), some (.o (μ.length + 2)), some (.p x), w7, w8], _, ?_, rfl, some (.p x), w7, w8, rfl⟩
    simp only [evSs] at hb
    simp only [v_tg1, List.set_cons_succ, List.set_cons_zero, hb, theirsV]
  obtain ⟨b1, b2, b3, b4⟩ := theirsV_is ns A.1 A.2 k
  generalize hB : theirsV ns A.1 A.2 k = B at *
  have hka : (town B.2 :: (μ ++ [.lst (A.1.map .int), .lst (B.1.map .int)]))[μ.length + 1]? = some (.lst (A.1.map .int)) := by
    rw [List.getElem?_cons_succ, v_g0]; rfl
  have hkb : (town B.2 :: (μ ++ [.lst (A.1.map .int), .lst (B.1.map .int)]))[μ.length + 2]? = some (.lst (B.1.map .int)) := by
    rw [List.getElem?_cons_succ, v_gk]; rfl
  have ga : idxR ns (.o (μ.length + 1)) (.p (.int 0)) (town B.2 :: (μ ++ [.lst (A.1.map .int), .lst (B.1.map .int)])) = _ := v_so hka (by omega) (by rw [a1.len]; omega)
  have gb : idxR ns (.o (μ.length + 2)) (.p (.int 0)) (town B.2 :: (μ ++ [.lst (A.1.map .int), .lst (B.1.map .int)])) = _ := v_so hkb (by omega) (by rw [b1.len]; omega)
  have fin : ∀ A' : List Int, ∀ ρ' : Env, ρ' = [some .scr, some (.o 0), some (.p (.int most)), some (.p (.int k)), some (.o (μ.length + 1)), some (.o (μ.length + 2)), v6', v7', v8'] → evS (C ns (d + 4)) s__law_board_6 ρ' (town B.2 :: (μ ++ [.lst (A'.map .int), .lst (B.1.map .int)])) = .ok (.rt (.p (bd A' B.1))) (town B.2 :: (μ ++ [.lst (A'.map .int), .lst (B.1.map .int)])) := by
    rintro A' ρ' rfl
    have hka : (town B.2 :: (μ ++ [.lst (A'.map .int), .lst (B.1.map .int)]))[μ.length + 1]? = some (.lst (A'.map .int)) := by
      rw [List.getElem?_cons_succ, v_g0]; rfl
    have hkb : (town B.2 :: (μ ++ [.lst (A'.map .int), .lst (B.1.map .int)]))[μ.length + 2]? = some (.lst (B.1.map .int)) := by
      rw [List.getElem?_cons_succ, v_gk]; rfl
    simp only [s__law_board_6, v_bi_o hka, v_bi_o hkb, List.length_map, ups_len, downs_len, Int.cast_ofNat_Int, List.take_length, Nat.add_assoc, big, v_ix0, v_ix1, v_ix2, v_ix3, v_il0, v_il1, v_in0, v_in1, v_in2, v_tg2, v_sum_ti, v_sum_li, v_len_ti, v_eq_nil, v_ne_nil, v_eq_sd, v_ne_sd, tx_inj, v_in_li, v_eq_li, v_ne_li, v_eq_bd, v_ne_bd, eq_self, and_self, or_self, Int.reduceAdd, Int.reduceSub, Int.reduceMul, Int.reduceNeg, Int.reduceLT, Int.reduceLE, Int.reduceEq, Int.reduceNe, Nat.reduceLeDiff, Nat.reduceLT, decide_true, decide_false, Bool.not_not, ite_true, ite_false, Bool.true_eq_false, Bool.false_eq_true, Bool.and_true, Bool.true_and, Bool.and_false, Bool.false_and, Bool.or_true, Bool.true_or, Bool.or_false, Bool.false_or, Bool.false_eq_true, if_false, if_true, reduceIte, List.getElem?_cons_zero, List.getElem?_cons_succ, List.set_cons_zero, List.set_cons_succ, List.map_cons, List.map_nil, List.length_cons, List.length_nil, List.cons_append, List.nil_append, List.replicate_succ, List.replicate_zero, Nat.reduceAdd, Nat.reduceSub, Bool.not_true, Bool.not_false, decide_true, decide_false, Option.map_some, List.take_succ_cons, List.take_zero, v_g0, v_gk, v_s0, v_sk, v_tk, cl_isx, cl_sub, List.append_assoc, List.length_append, evSs, evS, evE, evAs, evFs, evIs, evB, evO, evIf, cl_scr, Out.bind_ok, Out.bind_exc, Out.bind_bad, R.wipe, v_onP_p, v_onP_n, v_onP_o, v_onP_f, v_int, v_bl, v_str, v_data, v_seq, v_obj, v_ix, v_of, v_retT, v_retT_b, v_retT_s, v_retT_l, v_retB, v_retB_b, v_add, v_sub, v_mul, v_mod, v_fdiv, v_pow, v_addl, v_addt, v_adds, v_mull, v_mult, v_lt, v_le, v_gt, v_ge, v_eq, v_ne, v_eqs, v_nes, v_isN, v_isNN, v_ltt, v_binR, v_frz_p, v_frz_n, v_pop_p, v_pop_n, v_sto_p, v_sto_n, v_sto_t, v_sto_o, v_lst, v_tup, v_lenR, v_len_s, v_bi_p, v_bi_n, v_bi_o, v_len_l, v_len_t, v_sum_l, v_sum_t, v_all, v_any, v_min_t, v_max_t, v_min_l, v_max_l, v_list_l, v_list_t, v_tuple_l, v_tuple_t, v_idx_t, v_idx_l, v_idx_n, v_idx_o, v_idx_s, v_tg1, v_app, v_seti, v_thn_n, v_thn_r, v_okB, v_noexc, v_arg_p, v_arg_n, v_arg_o, v_arg_s]
  unfold boardF
  by_cases c : gi A.1 0 = k ∧ gi B.1 0 = k
  · have d1 : decide (gi A.1 0 = k) = true := decide_eq_true c.1
    have d2 : decide (gi B.1 0 = k) = true := decide_eq_true c.2
    have s1 : ∀ ρ : Env, setiR (.p (.int ((k : Int) - 1))) (.o (μ.length + 1)) (.p (.int 0)) ρ (town B.2 :: (μ ++ [.lst (A.1.map .int), .lst (B.1.map .int)])) = _ := fun ρ => v_ssi hka (by omega) (by rw [a1.len]; omega)
    have hk2 : (town B.2 :: (μ ++ [.lst ((si A.1 0 ((k : Int) - 1)).map .int), .lst (B.1.map .int)]))[μ.length + 1]? = some (.lst ((si A.1 0 ((k : Int) - 1)).map .int)) := by
      rw [List.getElem?_cons_succ, v_g0]; rfl
    have s2 : ∀ ρ : Env, setiR (.p (.int 1)) (.o (μ.length + 1)) (.p (.int 25)) ρ (town B.2 :: (μ ++ [.lst ((si A.1 0 ((k : Int) - 1)).map .int), .lst (B.1.map .int)])) = _ := fun ρ => v_ssi hk2 (by omega) (by rw [si_len, a1.len]; omega)
    have S5 : evS (C ns (d + 4)) s__law_board_5 [some .scr, some (.o 0), some (.p (.int most)), some (.p (.int k)), some (.o (μ.length + 1)), some (.o (μ.length + 2)), v6', v7', v8'] (town B.2 :: (μ ++ [.lst (A.1.map .int), .lst (B.1.map .int)])) = .ok (.nx [some .scr, some (.o 0), some (.p (.int most)), some (.p (.int k)), some (.o (μ.length + 1)), some (.o (μ.length + 2)), v6', v7', v8']) (town B.2 :: (μ ++ [.lst ((si (si A.1 0 ((k : Int) - 1)) 25 1).map .int), .lst (B.1.map .int)])) := by
      simp only [s__law_board_5, s__law_board_5a_0, s__law_board_5a_1, ga, gb, d1, d2, s1, s2, List.length_map, ups_len, downs_len, Int.cast_ofNat_Int, List.take_length, Nat.add_assoc, big, v_ix0, v_ix1, v_ix2, v_ix3, v_il0, v_il1, v_in0, v_in1, v_in2, v_tg2, v_sum_ti, v_sum_li, v_len_ti, v_eq_nil, v_ne_nil, v_eq_sd, v_ne_sd, tx_inj, v_in_li, v_eq_li, v_ne_li, v_eq_bd, v_ne_bd, eq_self, and_self, or_self, Int.reduceAdd, Int.reduceSub, Int.reduceMul, Int.reduceNeg, Int.reduceLT, Int.reduceLE, Int.reduceEq, Int.reduceNe, Nat.reduceLeDiff, Nat.reduceLT, decide_true, decide_false, Bool.not_not, ite_true, ite_false, Bool.true_eq_false, Bool.false_eq_true, Bool.and_true, Bool.true_and, Bool.and_false, Bool.false_and, Bool.or_true, Bool.true_or, Bool.or_false, Bool.false_or, Bool.false_eq_true, if_false, if_true, reduceIte, List.getElem?_cons_zero, List.getElem?_cons_succ, List.set_cons_zero, List.set_cons_succ, List.map_cons, List.map_nil, List.length_cons, List.length_nil, List.cons_append, List.nil_append, List.replicate_succ, List.replicate_zero, Nat.reduceAdd, Nat.reduceSub, Bool.not_true, Bool.not_false, decide_true, decide_false, Option.map_some, List.take_succ_cons, List.take_zero, v_g0, v_gk, v_s0, v_sk, v_tk, cl_isx, cl_sub, List.append_assoc, List.length_append, evSs, evS, evE, evAs, evFs, evIs, evB, evO, evIf, cl_scr, Out.bind_ok, Out.bind_exc, Out.bind_bad, R.wipe, v_onP_p, v_onP_n, v_onP_o, v_onP_f, v_int, v_bl, v_str, v_data, v_seq, v_obj, v_ix, v_of, v_retT, v_retT_b, v_retT_s, v_retT_l, v_retB, v_retB_b, v_add, v_sub, v_mul, v_mod, v_fdiv, v_pow, v_addl, v_addt, v_adds, v_mull, v_mult, v_lt, v_le, v_gt, v_ge, v_eq, v_ne, v_eqs, v_nes, v_isN, v_isNN, v_ltt, v_binR, v_frz_p, v_frz_n, v_pop_p, v_pop_n, v_sto_p, v_sto_n, v_sto_t, v_sto_o, v_lst, v_tup, v_lenR, v_len_s, v_bi_p, v_bi_n, v_bi_o, v_len_l, v_len_t, v_sum_l, v_sum_t, v_all, v_any, v_min_t, v_max_t, v_min_l, v_max_l, v_list_l, v_list_t, v_tuple_l, v_tuple_t, v_idx_t, v_idx_l, v_idx_n, v_idx_o, v_idx_s, v_tg1, v_app, v_seti, v_thn_n, v_thn_r, v_okB, v_noexc, v_arg_p, v_arg_n, v_arg_o, v_arg_s]
    rw [fn_ret (f := f__law_board) (ρ := [some .scr, some (.o 0), some (.p (.int most)), none, none, none, none, none, none]) rfl rfl ((ss_next S0).trans ((ss_next S1).trans ((ss_next S2).trans ((ss_next S3).trans ((ss_next S4).trans ((ss_next S5).trans (ss_last (fin _ _ rfl)))))))), v_pop_p]
    simp only [if_pos c, List.length_map, ups_len, downs_len, Int.cast_ofNat_Int, List.take_length, Nat.add_assoc, big, v_ix0, v_ix1, v_ix2, v_ix3, v_il0, v_il1, v_in0, v_in1, v_in2, v_tg2, v_sum_ti, v_sum_li, v_len_ti, v_eq_nil, v_ne_nil, v_eq_sd, v_ne_sd, tx_inj, v_in_li, v_eq_li, v_ne_li, v_eq_bd, v_ne_bd, eq_self, and_self, or_self, Int.reduceAdd, Int.reduceSub, Int.reduceMul, Int.reduceNeg, Int.reduceLT, Int.reduceLE, Int.reduceEq, Int.reduceNe, Nat.reduceLeDiff, Nat.reduceLT, decide_true, decide_false, Bool.not_not, ite_true, ite_false, Bool.true_eq_false, Bool.false_eq_true, Bool.and_true, Bool.true_and, Bool.and_false, Bool.false_and, Bool.or_true, Bool.true_or, Bool.or_false, Bool.false_or, Bool.false_eq_true, if_false, if_true, reduceIte, List.getElem?_cons_zero, List.getElem?_cons_succ, List.set_cons_zero, List.set_cons_succ, List.map_cons, List.map_nil, List.length_cons, List.length_nil, List.cons_append, List.nil_append, List.replicate_succ, List.replicate_zero, Nat.reduceAdd, Nat.reduceSub, Bool.not_true, Bool.not_false, decide_true, decide_false, Option.map_some, List.take_succ_cons, List.take_zero, v_g0, v_gk, v_s0, v_sk, v_tk, cl_isx, cl_sub, List.append_assoc, List.length_append, evSs, evS, evE, evAs, evFs, evIs, evB, evO, evIf, cl_scr, Out.bind_ok, Out.bind_exc, Out.bind_bad, R.wipe, v_onP_p, v_onP_n, v_onP_o, v_onP_f, v_int, v_bl, v_str, v_data, v_seq, v_obj, v_ix, v_of, v_retT, v_retT_b, v_retT_s, v_retT_l, v_retB, v_retB_b, v_add, v_sub, v_mul, v_mod, v_fdiv, v_pow, v_addl, v_addt, v_adds, v_mull, v_mult, v_lt, v_le, v_gt, v_ge, v_eq, v_ne, v_eqs, v_nes, v_isN, v_isNN, v_ltt, v_binR, v_frz_p, v_frz_n, v_pop_p, v_pop_n, v_sto_p, v_sto_n, v_sto_t, v_sto_o, v_lst, v_tup, v_lenR, v_len_s, v_bi_p, v_bi_n, v_bi_o, v_len_l, v_len_t, v_sum_l, v_sum_t, v_all, v_any, v_min_t, v_max_t, v_min_l, v_max_l, v_list_l, v_list_t, v_tuple_l, v_tuple_t, v_idx_t, v_idx_l, v_idx_n, v_idx_o, v_idx_s, v_tg1, v_app, v_seti, v_thn_n, v_thn_r, v_okB, v_noexc, v_arg_p, v_arg_n, v_arg_o, v_arg_s]
  · have S5 : evS (C ns (d + 4)) s__law_board_5 [some .scr, some (.o 0), some (.p (.int most)), some (.p (.int k)), some (.o (μ.length + 1)), some (.o (μ.length + 2)), v6', v7', v8'] (town B.2 :: (μ ++ [.lst (A.1.map .int), .lst (B.1.map .int)])) = .ok (.nx [some .scr, some (.o 0), some (.p (.int most)), some (.p (.int k)), some (.o (μ.length + 1)), some (.o (μ.length + 2)), v6', v7', v8']) (town B.2 :: (μ ++ [.lst (A.1.map .int), .lst (B.1.map .int)])) := by
      by_cases c1 : gi A.1 0 = k
      · have d1 : decide (gi A.1 0 = k) = true := decide_eq_true c1
        have d2 : decide (gi B.1 0 = k) = false := decide_eq_false fun h => c ⟨c1, h⟩
        simp only [s__law_board_5, s__law_board_5a_0, s__law_board_5a_1, ga, gb, d1, d2, List.length_map, ups_len, downs_len, Int.cast_ofNat_Int, List.take_length, Nat.add_assoc, big, v_ix0, v_ix1, v_ix2, v_ix3, v_il0, v_il1, v_in0, v_in1, v_in2, v_tg2, v_sum_ti, v_sum_li, v_len_ti, v_eq_nil, v_ne_nil, v_eq_sd, v_ne_sd, tx_inj, v_in_li, v_eq_li, v_ne_li, v_eq_bd, v_ne_bd, eq_self, and_self, or_self, Int.reduceAdd, Int.reduceSub, Int.reduceMul, Int.reduceNeg, Int.reduceLT, Int.reduceLE, Int.reduceEq, Int.reduceNe, Nat.reduceLeDiff, Nat.reduceLT, decide_true, decide_false, Bool.not_not, ite_true, ite_false, Bool.true_eq_false, Bool.false_eq_true, Bool.and_true, Bool.true_and, Bool.and_false, Bool.false_and, Bool.or_true, Bool.true_or, Bool.or_false, Bool.false_or, Bool.false_eq_true, if_false, if_true, reduceIte, List.getElem?_cons_zero, List.getElem?_cons_succ, List.set_cons_zero, List.set_cons_succ, List.map_cons, List.map_nil, List.length_cons, List.length_nil, List.cons_append, List.nil_append, List.replicate_succ, List.replicate_zero, Nat.reduceAdd, Nat.reduceSub, Bool.not_true, Bool.not_false, decide_true, decide_false, Option.map_some, List.take_succ_cons, List.take_zero, v_g0, v_gk, v_s0, v_sk, v_tk, cl_isx, cl_sub, List.append_assoc, List.length_append, evSs, evS, evE, evAs, evFs, evIs, evB, evO, evIf, cl_scr, Out.bind_ok, Out.bind_exc, Out.bind_bad, R.wipe, v_onP_p, v_onP_n, v_onP_o, v_onP_f, v_int, v_bl, v_str, v_data, v_seq, v_obj, v_ix, v_of, v_retT, v_retT_b, v_retT_s, v_retT_l, v_retB, v_retB_b, v_add, v_sub, v_mul, v_mod, v_fdiv, v_pow, v_addl, v_addt, v_adds, v_mull, v_mult, v_lt, v_le, v_gt, v_ge, v_eq, v_ne, v_eqs, v_nes, v_isN, v_isNN, v_ltt, v_binR, v_frz_p, v_frz_n, v_pop_p, v_pop_n, v_sto_p, v_sto_n, v_sto_t, v_sto_o, v_lst, v_tup, v_lenR, v_len_s, v_bi_p, v_bi_n, v_bi_o, v_len_l, v_len_t, v_sum_l, v_sum_t, v_all, v_any, v_min_t, v_max_t, v_min_l, v_max_l, v_list_l, v_list_t, v_tuple_l, v_tuple_t, v_idx_t, v_idx_l, v_idx_n, v_idx_o, v_idx_s, v_tg1, v_app, v_seti, v_thn_n, v_thn_r, v_okB, v_noexc, v_arg_p, v_arg_n, v_arg_o, v_arg_s]
      · have d1 : decide (gi A.1 0 = k) = false := decide_eq_false c1
        simp only [s__law_board_5, s__law_board_5a_0, s__law_board_5a_1, ga, gb, d1, List.length_map, ups_len, downs_len, Int.cast_ofNat_Int, List.take_length, Nat.add_assoc, big, v_ix0, v_ix1, v_ix2, v_ix3, v_il0, v_il1, v_in0, v_in1, v_in2, v_tg2, v_sum_ti, v_sum_li, v_len_ti, v_eq_nil, v_ne_nil, v_eq_sd, v_ne_sd, tx_inj, v_in_li, v_eq_li, v_ne_li, v_eq_bd, v_ne_bd, eq_self, and_self, or_self, Int.reduceAdd, Int.reduceSub, Int.reduceMul, Int.reduceNeg, Int.reduceLT, Int.reduceLE, Int.reduceEq, Int.reduceNe, Nat.reduceLeDiff, Nat.reduceLT, decide_true, decide_false, Bool.not_not, ite_true, ite_false, Bool.true_eq_false, Bool.false_eq_true, Bool.and_true, Bool.true_and, Bool.and_false, Bool.false_and, Bool.or_true, Bool.true_or, Bool.or_false, Bool.false_or, Bool.false_eq_true, if_false, if_true, reduceIte, List.getElem?_cons_zero, List.getElem?_cons_succ, List.set_cons_zero, List.set_cons_succ, List.map_cons, List.map_nil, List.length_cons, List.length_nil, List.cons_append, List.nil_append, List.replicate_succ, List.replicate_zero, Nat.reduceAdd, Nat.reduceSub, Bool.not_true, Bool.not_false, decide_true, decide_false, Option.map_some, List.take_succ_cons, List.take_zero, v_g0, v_gk, v_s0, v_sk, v_tk, cl_isx, cl_sub, List.append_assoc, List.length_append, evSs, evS, evE, evAs, evFs, evIs, evB, evO, evIf, cl_scr, Out.bind_ok, Out.bind_exc, Out.bind_bad, R.wipe, v_onP_p, v_onP_n, v_onP_o, v_onP_f, v_int, v_bl, v_str, v_data, v_seq, v_obj, v_ix, v_of, v_retT, v_retT_b, v_retT_s, v_retT_l, v_retB, v_retB_b, v_add, v_sub, v_mul, v_mod, v_fdiv, v_pow, v_addl, v_addt, v_adds, v_mull, v_mult, v_lt, v_le, v_gt, v_ge, v_eq, v_ne, v_eqs, v_nes, v_isN, v_isNN, v_ltt, v_binR, v_frz_p, v_frz_n, v_pop_p, v_pop_n, v_sto_p, v_sto_n, v_sto_t, v_sto_o, v_lst, v_tup, v_lenR, v_len_s, v_bi_p, v_bi_n, v_bi_o, v_len_l, v_len_t, v_sum_l, v_sum_t, v_all, v_any, v_min_t, v_max_t, v_min_l, v_max_l, v_list_l, v_list_t, v_tuple_l, v_tuple_t, v_idx_t, v_idx_l, v_idx_n, v_idx_o, v_idx_s, v_tg1, v_app, v_seti, v_thn_n, v_thn_r, v_okB, v_noexc, v_arg_p, v_arg_n, v_arg_o, v_arg_s]
    rw [fn_ret (f := f__law_board) (ρ := [some .scr, some (.o 0), some (.p (.int most)), none, none, none, none, none, none]) rfl rfl ((ss_next S0).trans ((ss_next S1).trans ((ss_next S2).trans ((ss_next S3).trans ((ss_next S4).trans ((ss_next S5).trans (ss_last (fin _ _ rfl)))))))), v_pop_p]
    simp only [if_neg c, List.length_map, ups_len, downs_len, Int.cast_ofNat_Int, List.take_length, Nat.add_assoc, big, v_ix0, v_ix1, v_ix2, v_ix3, v_il0, v_il1, v_in0, v_in1, v_in2, v_tg2, v_sum_ti, v_sum_li, v_len_ti, v_eq_nil, v_ne_nil, v_eq_sd, v_ne_sd, tx_inj, v_in_li, v_eq_li, v_ne_li, v_eq_bd, v_ne_bd, eq_self, and_self, or_self, Int.reduceAdd, Int.reduceSub, Int.reduceMul, Int.reduceNeg, Int.reduceLT, Int.reduceLE, Int.reduceEq, Int.reduceNe, Nat.reduceLeDiff, Nat.reduceLT, decide_true, decide_false, Bool.not_not, ite_true, ite_false, Bool.true_eq_false, Bool.false_eq_true, Bool.and_true, Bool.true_and, Bool.and_false, Bool.false_and, Bool.or_true, Bool.true_or, Bool.or_false, Bool.false_or, Bool.false_eq_true, if_false, if_true, reduceIte, List.getElem?_cons_zero, List.getElem?_cons_succ, List.set_cons_zero, List.set_cons_succ, List.map_cons, List.map_nil, List.length_cons, List.length_nil, List.cons_append, List.nil_append, List.replicate_succ, List.replicate_zero, Nat.reduceAdd, Nat.reduceSub, Bool.not_true, Bool.not_false, decide_true, decide_false, Option.map_some, List.take_succ_cons, List.take_zero, v_g0, v_gk, v_s0, v_sk, v_tk, cl_isx, cl_sub, List.append_assoc, List.length_append, evSs, evS, evE, evAs, evFs, evIs, evB, evO, evIf, cl_scr, Out.bind_ok, Out.bind_exc, Out.bind_bad, R.wipe, v_onP_p, v_onP_n, v_onP_o, v_onP_f, v_int, v_bl, v_str, v_data, v_seq, v_obj, v_ix, v_of, v_retT, v_retT_b, v_retT_s, v_retT_l, v_retB, v_retB_b, v_add, v_sub, v_mul, v_mod, v_fdiv, v_pow, v_addl, v_addt, v_adds, v_mull, v_mult, v_lt, v_le, v_gt, v_ge, v_eq, v_ne, v_eqs, v_nes, v_isN, v_isNN, v_ltt, v_binR, v_frz_p, v_frz_n, v_pop_p, v_pop_n, v_sto_p, v_sto_n, v_sto_t, v_sto_o, v_lst, v_tup, v_lenR, v_len_s, v_bi_p, v_bi_n, v_bi_o, v_len_l, v_len_t, v_sum_l, v_sum_t, v_all, v_any, v_min_t, v_max_t, v_min_l, v_max_l, v_list_l, v_list_t, v_tuple_l, v_tuple_t, v_idx_t, v_idx_l, v_idx_n, v_idx_o, v_idx_s, v_tg1, v_app, v_seti, v_thn_n, v_thn_r, v_okB, v_noexc, v_arg_p, v_arg_n, v_arg_o, v_arg_s]

end R
namespace R
open PySem
/-! ### the law's own look at a board -/
theorem fn_is_board (ns : List Int) (d : Nat) (a b : List Int) (ha : a.length ≤ 1000) (hb : b.length ≤ 1000) (μ : Mu) : (C ns (d + 1)).fn 16 [.p (.tup [.tup (a.map .int), .tup (b.map .int)])] μ = .ok (.p (.bl (isBoard a b))) μ := by
  rw [cl_fn (f := f__law_is_board) rfl]
  have end0 : isBoard a b = false → evSs (C ns d) [s__law_is_board_0, s__law_is_board_1, s__law_is_board_2, s__law_is_board_3] [some (.p (bd a b)), none] μ = .ok (.rt (.p (.bl false))) μ → evFn (C ns d) f__law_is_board [.p (.tup [.tup (a.map .int), .tup (b.map .int)])] μ = .ok (.p (.bl (isBoard a b))) μ := fun h e => by
    rw [fn_ret (f := f__law_is_board) (ρ := [some (.p (bd a b)), none]) rfl rfl e, v_pop_p, List.take_length, h]
  have not : ¬ (a.length = 26 ∧ b.length = 26 ∧ a.sum = b.sum ∧ (∀ x ∈ a ++ b, 0 ≤ x) ∧ 1 ≤ a.sum ∧ a.sum ≤ 15 ∧ (∀ p, 1 ≤ p → p < 25 → ¬ (0 < gi a p ∧ 0 < gi b (25 - p)))) → isBoard a b = false := fun h => by
    rw [Bool.eq_false_iff]
    intro hB
    obtain ⟨h1, h2, h3, h4, h5⟩ := isBoard_iff.mp hB
    obtain ⟨q1, q2, q3, q4⟩ := isSide_iff.mp h1
    obtain ⟨r1, r2, r3, r4⟩ := isSide_iff.mp h2
    refine h ⟨q1, r1, h3, fun x hx => ?_, q3, q4, h4⟩
    rcases List.mem_append.mp hx with hx | hx
    · exact q2 x hx
    · exact r2 x hx
  by_cases la : a.length = 26
  case neg =>
    have d1 : decide ((a.length : Int) = 26) = false := decide_eq_false (by omega)
    refine end0 (not fun h => la h.1) (ss_last ?_)
    simp only [s__law_is_board_0, s__law_is_board_0a_0, v_len_ti, d1, List.length_map, ups_len, downs_len, Int.cast_ofNat_Int, List.take_length, Nat.add_assoc, big, v_ix0, v_ix1, v_ix2, v_ix3, v_il0, v_il1, v_in0, v_in1, v_in2, v_tg2, v_sum_ti, v_sum_li, v_len_ti, v_eq_nil, v_ne_nil, v_eq_sd, v_ne_sd, tx_inj, v_in_li, v_eq_li, v_ne_li, v_eq_bd, v_ne_bd, eq_self, and_self, or_self, Int.reduceAdd, Int.reduceSub, Int.reduceMul, Int.reduceNeg, Int.reduceLT, Int.reduceLE, Int.reduceEq, Int.reduceNe, Nat.reduceLeDiff, Nat.reduceLT, decide_true, decide_false, Bool.not_not, ite_true, ite_false, Bool.true_eq_false, Bool.false_eq_true, Bool.and_true, Bool.true_and, Bool.and_false, Bool.false_and, Bool.or_true, Bool.true_or, Bool.or_false, Bool.false_or, Bool.false_eq_true, if_false, if_true, reduceIte, List.getElem?_cons_zero, List.getElem?_cons_succ, List.set_cons_zero, List.set_cons_succ, List.map_cons, List.map_nil, List.length_cons, List.length_nil, List.cons_append, List.nil_append, List.replicate_succ, List.replicate_zero, Nat.reduceAdd, Nat.reduceSub, Bool.not_true, Bool.not_false, decide_true, decide_false, Option.map_some, List.take_succ_cons, List.take_zero, v_g0, v_gk, v_s0, v_sk, v_tk, cl_isx, cl_sub, List.append_assoc, List.length_append, evSs, evS, evE, evAs, evFs, evIs, evB, evO, evIf, cl_scr, Out.bind_ok, Out.bind_exc, Out.bind_bad, R.wipe, v_onP_p, v_onP_n, v_onP_o, v_onP_f, v_int, v_bl, v_str, v_data, v_seq, v_obj, v_ix, v_of, v_retT, v_retT_b, v_retT_s, v_retT_l, v_retB, v_retB_b, v_add, v_sub, v_mul, v_mod, v_fdiv, v_pow, v_addl, v_addt, v_adds, v_mull, v_mult, v_lt, v_le, v_gt, v_ge, v_eq, v_ne, v_eqs, v_nes, v_isN, v_isNN, v_ltt, v_binR, v_frz_p, v_frz_n, v_pop_p, v_pop_n, v_sto_p, v_sto_n, v_sto_t, v_sto_o, v_lst, v_tup, v_lenR, v_len_s, v_bi_p, v_bi_n, v_bi_o, v_len_l, v_len_t, v_sum_l, v_sum_t, v_all, v_any, v_min_t, v_max_t, v_min_l, v_max_l, v_list_l, v_list_t, v_tuple_l, v_tuple_t, v_idx_t, v_idx_l, v_idx_n, v_idx_o, v_idx_s, v_tg1, v_app, v_seti, v_thn_n, v_thn_r, v_okB, v_noexc, v_arg_p, v_arg_n, v_arg_o, v_arg_s]
  have d1 : decide ((a.length : Int) = 26) = true := decide_eq_true (by omega)
  by_cases lb : b.length = 26
  case neg =>
    have d2 : decide ((b.length : Int) = 26) = false := decide_eq_false (by omega)
    refine end0 (not fun h => lb h.2.1) (ss_last ?_)
    simp only [s__law_is_board_0, s__law_is_board_0a_0, v_len_ti, d1, d2, List.length_map, ups_len, downs_len, Int.cast_ofNat_Int, List.take_length, Nat.add_assoc, big, v_ix0, v_ix1, v_ix2, v_ix3, v_il0, v_il1, v_in0, v_in1, v_in2, v_tg2, v_sum_ti, v_sum_li, v_len_ti, v_eq_nil, v_ne_nil, v_eq_sd, v_ne_sd, tx_inj, v_in_li, v_eq_li, v_ne_li, v_eq_bd, v_ne_bd, eq_self, and_self, or_self, Int.reduceAdd, Int.reduceSub, Int.reduceMul, Int.reduceNeg, Int.reduceLT, Int.reduceLE, Int.reduceEq, Int.reduceNe, Nat.reduceLeDiff, Nat.reduceLT, decide_true, decide_false, Bool.not_not, ite_true, ite_false, Bool.true_eq_false, Bool.false_eq_true, Bool.and_true, Bool.true_and, Bool.and_false, Bool.false_and, Bool.or_true, Bool.true_or, Bool.or_false, Bool.false_or, Bool.false_eq_true, if_false, if_true, reduceIte, List.getElem?_cons_zero, List.getElem?_cons_succ, List.set_cons_zero, List.set_cons_succ, List.map_cons, List.map_nil, List.length_cons, List.length_nil, List.cons_append, List.nil_append, List.replicate_succ, List.replicate_zero, Nat.reduceAdd, Nat.reduceSub, Bool.not_true, Bool.not_false, decide_true, decide_false, Option.map_some, List.take_succ_cons, List.take_zero, v_g0, v_gk, v_s0, v_sk, v_tk, cl_isx, cl_sub, List.append_assoc, List.length_append, evSs, evS, evE, evAs, evFs, evIs, evB, evO, evIf, cl_scr, Out.bind_ok, Out.bind_exc, Out.bind_bad, R.wipe, v_onP_p, v_onP_n, v_onP_o, v_onP_f, v_int, v_bl, v_str, v_data, v_seq, v_obj, v_ix, v_of, v_retT, v_retT_b, v_retT_s, v_retT_l, v_retB, v_retB_b, v_add, v_sub, v_mul, v_mod, v_fdiv, v_pow, v_addl, v_addt, v_adds, v_mull, v_mult, v_lt, v_le, v_gt, v_ge, v_eq, v_ne, v_eqs, v_nes, v_isN, v_isNN, v_ltt, v_binR, v_frz_p, v_frz_n, v_pop_p, v_pop_n, v_sto_p, v_sto_n, v_sto_t, v_sto_o, v_lst, v_tup, v_lenR, v_len_s, v_bi_p, v_bi_n, v_bi_o, v_len_l, v_len_t, v_sum_l, v_sum_t, v_all, v_any, v_min_t, v_max_t, v_min_l, v_max_l, v_list_l, v_list_t, v_tuple_l, v_tuple_t, v_idx_t, v_idx_l, v_idx_n, v_idx_o, v_idx_s, v_tg1, v_app, v_seti, v_thn_n, v_thn_r, v_okB, v_noexc, v_arg_p, v_arg_n, v_arg_o, v_arg_s]
  have d2 : decide ((b.length : Int) = 26) = true := decide_eq_true (by omega)
  by_cases hs : a.sum = b.sum
  case neg =>
    have d3 : decide (a.sum = b.sum) = false := decide_eq_false hs
    refine end0 (not fun h => hs h.2.2.1) (ss_last ?_)
    simp only [s__law_is_board_0, s__law_is_board_0a_0, v_len_ti, d1, d2, d3, List.length_map, ups_len, downs_len, Int.cast_ofNat_Int, List.take_length, Nat.add_assoc, big, v_ix0, v_ix1, v_ix2, v_ix3, v_il0, v_il1, v_in0, v_in1, v_in2, v_tg2, v_sum_ti, v_sum_li, v_len_ti, v_eq_nil, v_ne_nil, v_eq_sd, v_ne_sd, tx_inj, v_in_li, v_eq_li, v_ne_li, v_eq_bd, v_ne_bd, eq_self, and_self, or_self, Int.reduceAdd, Int.reduceSub, Int.reduceMul, Int.reduceNeg, Int.reduceLT, Int.reduceLE, Int.reduceEq, Int.reduceNe, Nat.reduceLeDiff, Nat.reduceLT, decide_true, decide_false, Bool.not_not, ite_true, ite_false, Bool.true_eq_false, Bool.false_eq_true, Bool.and_true, Bool.true_and, Bool.and_false, Bool.false_and, Bool.or_true, Bool.true_or, Bool.or_false, Bool.false_or, Bool.false_eq_true, if_false, if_true, reduceIte, List.getElem?_cons_zero, List.getElem?_cons_succ, List.set_cons_zero, List.set_cons_succ, List.map_cons, List.map_nil, List.length_cons, List.length_nil, List.cons_append, List.nil_append, List.replicate_succ, List.replicate_zero, Nat.reduceAdd, Nat.reduceSub, Bool.not_true, Bool.not_false, decide_true, decide_false, Option.map_some, List.take_succ_cons, List.take_zero, v_g0, v_gk, v_s0, v_sk, v_tk, cl_isx, cl_sub, List.append_assoc, List.length_append, evSs, evS, evE, evAs, evFs, evIs, evB, evO, evIf, cl_scr, Out.bind_ok, Out.bind_exc, Out.bind_bad, R.wipe, v_onP_p, v_onP_n, v_onP_o, v_onP_f, v_int, v_bl, v_str, v_data, v_seq, v_obj, v_ix, v_of, v_retT, v_retT_b, v_retT_s, v_retT_l, v_retB, v_retB_b, v_add, v_sub, v_mul, v_mod, v_fdiv, v_pow, v_addl, v_addt, v_adds, v_mull, v_mult, v_lt, v_le, v_gt, v_ge, v_eq, v_ne, v_eqs, v_nes, v_isN, v_isNN, v_ltt, v_binR, v_frz_p, v_frz_n, v_pop_p, v_pop_n, v_sto_p, v_sto_n, v_sto_t, v_sto_o, v_lst, v_tup, v_lenR, v_len_s, v_bi_p, v_bi_n, v_bi_o, v_len_l, v_len_t, v_sum_l, v_sum_t, v_all, v_any, v_min_t, v_max_t, v_min_l, v_max_l, v_list_l, v_list_t, v_tuple_l, v_tuple_t, v_idx_t, v_idx_l, v_idx_n, v_idx_o, v_idx_s, v_tg1, v_app, v_seti, v_thn_n, v_thn_r, v_okB, v_noexc, v_arg_p, v_arg_n, v_arg_o, v_arg_s]
  have d3 : decide (a.sum = b.sum) = true := decide_eq_true hs
  have S0 : evS (C ns d) s__law_is_board_0 [some (.p (bd a b)), none] μ = .ok (.nx [some (.p (bd a b)), none]) μ := by
    simp only [s__law_is_board_0, s__law_is_board_0a_0, v_len_ti, d1, d2, d3, List.length_map, ups_len, downs_len, Int.cast_ofNat_Int, List.take_length, Nat.add_assoc, big, v_ix0, v_ix1, v_ix2, v_ix3, v_il0, v_il1, v_in0, v_in1, v_in2, v_tg2, v_sum_ti, v_sum_li, v_len_ti, v_eq_nil, v_ne_nil, v_eq_sd, v_ne_sd, tx_inj, v_in_li, v_eq_li, v_ne_li, v_eq_bd, v_ne_bd, eq_self, and_self, or_self, Int.reduceAdd, Int.reduceSub, Int.reduceMul, Int.reduceNeg, Int.reduceLT, Int.reduceLE, Int.reduceEq, Int.reduceNe, Nat.reduceLeDiff, Nat.reduceLT, decide_true, decide_false, Bool.not_not, ite_true, ite_false, Bool.true_eq_false, Bool.false_eq_true, Bool.and_true, Bool.true_and, Bool.and_false, Bool.false_and, Bool.or_true, Bool.true_or, Bool.or_false, Bool.false_or, Bool.false_eq_true, if_false, if_true, reduceIte, List.getElem?_cons_zero, List.getElem?_cons_succ, List.set_cons_zero, List.set_cons_succ, List.map_cons, List.map_nil, List.length_cons, List.length_nil, List.cons_append, List.nil_append, List.replicate_succ, List.replicate_zero, Nat.reduceAdd, Nat.reduceSub, Bool.not_true, Bool.not_false, decide_true, decide_false, Option.map_some, List.take_succ_cons, List.take_zero, v_g0, v_gk, v_s0, v_sk, v_tk, cl_isx, cl_sub, List.append_assoc, List.length_append, evSs, evS, evE, evAs, evFs, evIs, evB, evO, evIf, cl_scr, Out.bind_ok, Out.bind_exc, Out.bind_bad, R.wipe, v_onP_p, v_onP_n, v_onP_o, v_onP_f, v_int, v_bl, v_str, v_data, v_seq, v_obj, v_ix, v_of, v_retT, v_retT_b, v_retT_s, v_retT_l, v_retB, v_retB_b, v_add, v_sub, v_mul, v_mod, v_fdiv, v_pow, v_addl, v_addt, v_adds, v_mull, v_mult, v_lt, v_le, v_gt, v_ge, v_eq, v_ne, v_eqs, v_nes, v_isN, v_isNN, v_ltt, v_binR, v_frz_p, v_frz_n, v_pop_p, v_pop_n, v_sto_p, v_sto_n, v_sto_t, v_sto_o, v_lst, v_tup, v_lenR, v_len_s, v_bi_p, v_bi_n, v_bi_o, v_len_l, v_len_t, v_sum_l, v_sum_t, v_all, v_any, v_min_t, v_max_t, v_min_l, v_max_l, v_list_l, v_list_t, v_tuple_l, v_tuple_t, v_idx_t, v_idx_l, v_idx_n, v_idx_o, v_idx_s, v_tg1, v_app, v_seti, v_thn_n, v_thn_r, v_okB, v_noexc, v_arg_p, v_arg_n, v_arg_o, v_arg_s]
  have hab : a ++ b ≠ [] := by
    intro h
    have := congrArg List.length h
    simp [la] at this
  have l2 : a.length + b.length ≤ 1000000 := by omega
  by_cases hn : ∀ x ∈ a ++ b, 0 ≤ x
  case neg =>
    have hm : minL (a ++ b) < 0 := by
      obtain ⟨x, hx, h0⟩ : ∃ x ∈ a ++ b, x < 0 := by
        apply Classical.byContradiction
        intro hc
        exact hn fun x hx => Int.not_lt.mp fun h => hc ⟨x, hx, h⟩
      have := minL_lo _ x hx
      omega
    have d4 : decide (minL (a ++ b) < 0) = true := decide_eq_true hm
    refine end0 (not fun h => hn h.2.2.2.1) ((ss_next S0).trans (ss_last ?_))
    simp only [s__law_is_board_1, s__law_is_board_1a_0, v_addti l2, v_min_ti hab, d4, List.length_map, ups_len, downs_len, Int.cast_ofNat_Int, List.take_length, Nat.add_assoc, big, v_ix0, v_ix1, v_ix2, v_ix3, v_il0, v_il1, v_in0, v_in1, v_in2, v_tg2, v_sum_ti, v_sum_li, v_len_ti, v_eq_nil, v_ne_nil, v_eq_sd, v_ne_sd, tx_inj, v_in_li, v_eq_li, v_ne_li, v_eq_bd, v_ne_bd, eq_self, and_self, or_self, Int.reduceAdd, Int.reduceSub, Int.reduceMul, Int.reduceNeg, Int.reduceLT, Int.reduceLE, Int.reduceEq, Int.reduceNe, Nat.reduceLeDiff, Nat.reduceLT, decide_true, decide_false, Bool.not_not, ite_true, ite_false, Bool.true_eq_false, Bool.false_eq_true, Bool.and_true, Bool.true_and, Bool.and_false, Bool.false_and, Bool.or_true, Bool.true_or, Bool.or_false, Bool.false_or, Bool.false_eq_true, if_false, if_true, reduceIte, List.getElem?_cons_zero, List.getElem?_cons_succ, List.set_cons_zero, List.set_cons_succ, List.map_cons, List.map_nil, List.length_cons, List.length_nil, List.cons_append, List.nil_append, List.replicate_succ, List.replicate_zero, Nat.reduceAdd, Nat.reduceSub, Bool.not_true, Bool.not_false, decide_true, decide_false, Option.map_some, List.take_succ_cons, List.take_zero, v_g0, v_gk, v_s0, v_sk, v_tk, cl_isx, cl_sub, List.append_assoc, List.length_append, evSs, evS, evE, evAs, evFs, evIs, evB, evO, evIf, cl_scr, Out.bind_ok, Out.bind_exc, Out.bind_bad, R.wipe, v_onP_p, v_onP_n, v_onP_o, v_onP_f, v_int, v_bl, v_str, v_data, v_seq, v_obj, v_ix, v_of, v_retT, v_retT_b, v_retT_s, v_retT_l, v_retB, v_retB_b, v_add, v_sub, v_mul, v_mod, v_fdiv, v_pow, v_addl, v_addt, v_adds, v_mull, v_mult, v_lt, v_le, v_gt, v_ge, v_eq, v_ne, v_eqs, v_nes, v_isN, v_isNN, v_ltt, v_binR, v_frz_p, v_frz_n, v_pop_p, v_pop_n, v_sto_p, v_sto_n, v_sto_t, v_sto_o, v_lst, v_tup, v_lenR, v_len_s, v_bi_p, v_bi_n, v_bi_o, v_len_l, v_len_t, v_sum_l, v_sum_t, v_all, v_any, v_min_t, v_max_t, v_min_l, v_max_l, v_list_l, v_list_t, v_tuple_l, v_tuple_t, v_idx_t, v_idx_l, v_idx_n, v_idx_o, v_idx_s, v_tg1, v_app, v_seti, v_thn_n, v_thn_r, v_okB, v_noexc, v_arg_p, v_arg_n, v_arg_o, v_arg_s]
  have d4 : decide (minL (a ++ b) < 0) = false := decide_eq_false (by have := hn _ (minL_in _ hab); omega)
  by_cases h1 : 1 ≤ a.sum
  case neg =>
    have d5 : decide (1 ≤ a.sum) = false := decide_eq_false h1
    refine end0 (not fun h => h1 h.2.2.2.2.1) ((ss_next S0).trans (ss_last ?_))
    simp only [s__law_is_board_1, s__law_is_board_1a_0, v_addti l2, v_min_ti hab, d4, d5, List.length_map, ups_len, downs_len, Int.cast_ofNat_Int, List.take_length, Nat.add_assoc, big, v_ix0, v_ix1, v_ix2, v_ix3, v_il0, v_il1, v_in0, v_in1, v_in2, v_tg2, v_sum_ti, v_sum_li, v_len_ti, v_eq_nil, v_ne_nil, v_eq_sd, v_ne_sd, tx_inj, v_in_li, v_eq_li, v_ne_li, v_eq_bd, v_ne_bd, eq_self, and_self, or_self, Int.reduceAdd, Int.reduceSub, Int.reduceMul, Int.reduceNeg, Int.reduceLT, Int.reduceLE, Int.reduceEq, Int.reduceNe, Nat.reduceLeDiff, Nat.reduceLT, decide_true, decide_false, Bool.not_not, ite_true, ite_false, Bool.true_eq_false, Bool.false_eq_true, Bool.and_true, Bool.true_and, Bool.and_false, Bool.false_and, Bool.or_true, Bool.true_or, Bool.or_false, Bool.false_or, Bool.false_eq_true, if_false, if_true, reduceIte, List.getElem?_cons_zero, List.getElem?_cons_succ, List.set_cons_zero, List.set_cons_succ, List.map_cons, List.map_nil, List.length_cons, List.length_nil, List.cons_append, List.nil_append, List.replicate_succ, List.replicate_zero, Nat.reduceAdd, Nat.reduceSub, Bool.not_true, Bool.not_false, decide_true, decide_false, Option.map_some, List.take_succ_cons, List.take_zero, v_g0, v_gk, v_s0, v_sk, v_tk, cl_isx, cl_sub, List.append_assoc, List.length_append, evSs, evS, evE, evAs, evFs, evIs, evB, evO, evIf, cl_scr, Out.bind_ok, Out.bind_exc, Out.bind_bad, R.wipe, v_onP_p, v_onP_n, v_onP_o, v_onP_f, v_int, v_bl, v_str, v_data, v_seq, v_obj, v_ix, v_of, v_retT, v_retT_b, v_retT_s, v_retT_l, v_retB, v_retB_b, v_add, v_sub, v_mul, v_mod, v_fdiv, v_pow, v_addl, v_addt, v_adds, v_mull, v_mult, v_lt, v_le, v_gt, v_ge, v_eq, v_ne, v_eqs, v_nes, v_isN, v_isNN, v_ltt, v_binR, v_frz_p, v_frz_n, v_pop_p, v_pop_n, v_sto_p, v_sto_n, v_sto_t, v_sto_o, v_lst, v_tup, v_lenR, v_len_s, v_bi_p, v_bi_n, v_bi_o, v_len_l, v_len_t, v_sum_l, v_sum_t, v_all, v_any, v_min_t, v_max_t, v_min_l, v_max_l, v_list_l, v_list_t, v_tuple_l, v_tuple_t, v_idx_t, v_idx_l, v_idx_n, v_idx_o, v_idx_s, v_tg1, v_app, v_seti, v_thn_n, v_thn_r, v_okB, v_noexc, v_arg_p, v_arg_n, v_arg_o, v_arg_s]
  have d5 : decide (1 ≤ a.sum) = true := decide_eq_true h1
  by_cases h15 : a.sum ≤ 15
  case neg =>
    have d6 : decide (a.sum ≤ 15) = false := decide_eq_false h15
    refine end0 (not fun h => h15 h.2.2.2.2.2.1) ((ss_next S0).trans (ss_last ?_))
    simp only [s__law_is_board_1, s__law_is_board_1a_0, v_addti l2, v_min_ti hab, d4, d5, d6, List.length_map, ups_len, downs_len, Int.cast_ofNat_Int, List.take_length, Nat.add_assoc, big, v_ix0, v_ix1, v_ix2, v_ix3, v_il0, v_il1, v_in0, v_in1, v_in2, v_tg2, v_sum_ti, v_sum_li, v_len_ti, v_eq_nil, v_ne_nil, v_eq_sd, v_ne_sd, tx_inj, v_in_li, v_eq_li, v_ne_li, v_eq_bd, v_ne_bd, eq_self, and_self, or_self, Int.reduceAdd, Int.reduceSub, Int.reduceMul, Int.reduceNeg, Int.reduceLT, Int.reduceLE, Int.reduceEq, Int.reduceNe, Nat.reduceLeDiff, Nat.reduceLT, decide_true, decide_false, Bool.not_not, ite_true, ite_false, Bool.true_eq_false, Bool.false_eq_true, Bool.and_true, Bool.true_and, Bool.and_false, Bool.false_and, Bool.or_true, Bool.true_or, Bool.or_false, Bool.false_or, Bool.false_eq_true, if_false, if_true, reduceIte, List.getElem?_cons_zero, List.getElem?_cons_succ, List.set_cons_zero, List.set_cons_succ, List.map_cons, List.map_nil, List.length_cons, List.length_nil, List.cons_append, List.nil_append, List.replicate_succ, List.replicate_zero, Nat.reduceAdd, Nat.reduceSub, Bool.not_true, Bool.not_false, decide_true, decide_false, Option.map_some, List.take_succ_cons, List.take_zero, v_g0, v_gk, v_s0, v_sk, v_tk, cl_isx, cl_sub, List.append_assoc, List.length_append, evSs, evS, evE, evAs, evFs, evIs, evB, evO, evIf, cl_scr, Out.bind_ok, Out.bind_exc, Out.bind_bad, R.wipe, v_onP_p, v_onP_n, v_onP_o, v_onP_f, v_int, v_bl, v_str, v_data, v_seq, v_obj, v_ix, v_of, v_retT, v_retT_b, v_retT_s, v_retT_l, v_retB, v_retB_b, v_add, v_sub, v_mul, v_mod, v_fdiv, v_pow, v_addl, v_addt, v_adds, v_mull, v_mult, v_lt, v_le, v_gt, v_ge, v_eq, v_ne, v_eqs, v_nes, v_isN, v_isNN, v_ltt, v_binR, v_frz_p, v_frz_n, v_pop_p, v_pop_n, v_sto_p, v_sto_n, v_sto_t, v_sto_o, v_lst, v_tup, v_lenR, v_len_s, v_bi_p, v_bi_n, v_bi_o, v_len_l, v_len_t, v_sum_l, v_sum_t, v_all, v_any, v_min_t, v_max_t, v_min_l, v_max_l, v_list_l, v_list_t, v_tuple_l, v_tuple_t, v_idx_t, v_idx_l, v_idx_n, v_idx_o, v_idx_s, v_tg1, v_app, v_seti, v_thn_n, v_thn_r, v_okB, v_noexc, v_arg_p, v_arg_n, v_arg_o, v_arg_s]
  have d6 : decide (a.sum ≤ 15) = true := decide_eq_true h15
  have S1 : evS (C ns d) s__law_is_board_1 [some (.p (bd a b)), none] μ = .ok (.nx [some (.p (bd a b)), none]) μ := by
    simp only [s__law_is_board_1, s__law_is_board_1a_0, v_addti l2, v_min_ti hab, d4, d5, d6, List.length_map, ups_len, downs_len, Int.cast_ofNat_Int, List.take_length, Nat.add_assoc, big, v_ix0, v_ix1, v_ix2, v_ix3, v_il0, v_il1, v_in0, v_in1, v_in2, v_tg2, v_sum_ti, v_sum_li, v_len_ti, v_eq_nil, v_ne_nil, v_eq_sd, v_ne_sd, tx_inj, v_in_li, v_eq_li, v_ne_li, v_eq_bd, v_ne_bd, eq_self, and_self, or_self, Int.reduceAdd, Int.reduceSub, Int.reduceMul, Int.reduceNeg, Int.reduceLT, Int.reduceLE, Int.reduceEq, Int.reduceNe, Nat.reduceLeDiff, Nat.reduceLT, decide_true, decide_false, Bool.not_not, ite_true, ite_false, Bool.true_eq_false, Bool.false_eq_true, Bool.and_true, Bool.true_and, Bool.and_false, Bool.false_and, Bool.or_true, Bool.true_or, Bool.or_false, Bool.false_or, Bool.false_eq_true, if_false, if_true, reduceIte, List.getElem?_cons_zero, List.getElem?_cons_succ, List.set_cons_zero, List.set_cons_succ, List.map_cons, List.map_nil, List.length_cons, List.length_nil, List.cons_append, List.nil_append, List.replicate_succ, List.replicate_zero, Nat.reduceAdd, Nat.reduceSub, Bool.not_true, Bool.not_false, decide_true, decide_false, Option.map_some, List.take_succ_cons, List.take_zero, v_g0, v_gk, v_s0, v_sk, v_tk, cl_isx, cl_sub, List.append_assoc, List.length_append, evSs, evS, evE, evAs, evFs, evIs, evB, evO, evIf, cl_scr, Out.bind_ok, Out.bind_exc, Out.bind_bad, R.wipe, v_onP_p, v_onP_n, v_onP_o, v_onP_f, v_int, v_bl, v_str, v_data, v_seq, v_obj, v_ix, v_of, v_retT, v_retT_b, v_retT_s, v_retT_l, v_retB, v_retB_b, v_add, v_sub, v_mul, v_mod, v_fdiv, v_pow, v_addl, v_addt, v_adds, v_mull, v_mult, v_lt, v_le, v_gt, v_ge, v_eq, v_ne, v_eqs, v_nes, v_isN, v_isNN, v_ltt, v_binR, v_frz_p, v_frz_n, v_pop_p, v_pop_n, v_sto_p, v_sto_n, v_sto_t, v_sto_o, v_lst, v_tup, v_lenR, v_len_s, v_bi_p, v_bi_n, v_bi_o, v_len_l, v_len_t, v_sum_l, v_sum_t, v_all, v_any, v_min_t, v_max_t, v_min_l, v_max_l, v_list_l, v_list_t, v_tuple_l, v_tuple_t, v_idx_t, v_idx_l, v_idx_n, v_idx_o, v_idx_s, v_tg1, v_app, v_seti, v_thn_n, v_thn_r, v_okB, v_noexc, v_arg_p, v_arg_n, v_arg_o, v_arg_s]
  have sa : isSide a = true := isSide_iff.mpr ⟨la, fun x hx => hn x (List.mem_append.mpr (.inl hx)), h1, h15⟩
  have sb : isSide b = true := isSide_iff.mpr ⟨lb, fun x hx => hn x (List.mem_append.mpr (.inr hx)), by omega, by omega⟩
  have hbig : ((ups 1 24).map P.int).length ≤ big := by rw [List.length_map, ups_len]; decide
  have S2 : evS (C ns d) s__law_is_board_2 [some (.p (bd a b)), none] μ = if (ups 1 24).filter (meet a b) = [] then .ok (.nx [some (.p (bd a b)), none]) μ else .ok (.rt (.p (.bl false))) μ := by
    simp only [s__law_is_board_2, s__law_is_board_2a_0, rng_1_25, hbig, List.length_map, ups_len, downs_len, Int.cast_ofNat_Int, List.take_length, Nat.add_assoc, big, v_ix0, v_ix1, v_ix2, v_ix3, v_il0, v_il1, v_in0, v_in1, v_in2, v_tg2, v_sum_ti, v_sum_li, v_len_ti, v_eq_nil, v_ne_nil, v_eq_sd, v_ne_sd, tx_inj, v_in_li, v_eq_li, v_ne_li, v_eq_bd, v_ne_bd, eq_self, and_self, or_self, Int.reduceAdd, Int.reduceSub, Int.reduceMul, Int.reduceNeg, Int.reduceLT, Int.reduceLE, Int.reduceEq, Int.reduceNe, Nat.reduceLeDiff, Nat.reduceLT, decide_true, decide_false, Bool.not_not, ite_true, ite_false, Bool.true_eq_false, Bool.false_eq_true, Bool.and_true, Bool.true_and, Bool.and_false, Bool.false_and, Bool.or_true, Bool.true_or, Bool.or_false, Bool.false_or, Bool.false_eq_true, if_false, if_true, reduceIte, List.getElem?_cons_zero, List.getElem?_cons_succ, List.set_cons_zero, List.set_cons_succ, List.map_cons, List.map_nil, List.length_cons, List.length_nil, List.cons_append, List.nil_append, List.replicate_succ, List.replicate_zero, Nat.reduceAdd, Nat.reduceSub, Bool.not_true, Bool.not_false, decide_true, decide_false, Option.map_some, List.take_succ_cons, List.take_zero, v_g0, v_gk, v_s0, v_sk, v_tk, cl_isx, cl_sub, List.append_assoc, List.length_append, evSs, evS, evE, evAs, evFs, evIs, evB, evO, evIf, cl_scr, Out.bind_ok, Out.bind_exc, Out.bind_bad, R.wipe, v_onP_p, v_onP_n, v_onP_o, v_onP_f, v_int, v_bl, v_str, v_data, v_seq, v_obj, v_ix, v_of, v_retT, v_retT_b, v_retT_s, v_retT_l, v_retB, v_retB_b, v_add, v_sub, v_mul, v_mod, v_fdiv, v_pow, v_addl, v_addt, v_adds, v_mull, v_mult, v_lt, v_le, v_gt, v_ge, v_eq, v_ne, v_eqs, v_nes, v_isN, v_isNN, v_ltt, v_binR, v_frz_p, v_frz_n, v_pop_p, v_pop_n, v_sto_p, v_sto_n, v_sto_t, v_sto_o, v_lst, v_tup, v_lenR, v_len_s, v_bi_p, v_bi_n, v_bi_o, v_len_l, v_len_t, v_sum_l, v_sum_t, v_all, v_any, v_min_t, v_max_t, v_min_l, v_max_l, v_list_l, v_list_t, v_tuple_l, v_tuple_t, v_idx_t, v_idx_l, v_idx_n, v_idx_o, v_idx_s, v_tg1, v_app, v_seti, v_thn_n, v_thn_r, v_okB, v_noexc, v_arg_p, v_arg_n, v_arg_o, v_arg_s]
    rw [compL_if (f := .int) (c := meet a b) ?hh]
    case hh =>
      intro x hx
      obtain ⟨x0, x1⟩ := mem_ups.mp hx
      have g1 := v_sd (scr := ns) (xs := a) (μ := μ) (i := x) (by omega) (by omega)
      have g2 := v_sd (scr := ns) (xs := b) (μ := μ) (i := 25 - x) (by omega) (by omega)
      obtain ⟨q1, q2⟩ := side_b sa (i := x) (by omega) (by omega)
      obtain ⟨q3, q4⟩ := side_b sb (i := 25 - x) (by omega) (by omega)
      have lg : (gi a x).natAbs.log2 + (gi b (25 - x)).natAbs.log2 < 1000000 := by
        have := log_lt (n := (gi a x).natAbs) (k := 20) (by omega) (by decide)
        have := log_lt (n := (gi b (25 - x)).natAbs) (k := 20) (by omega) (by decide)
        omega
      have e : decide (0 < gi a x * gi b (25 - x)) = meet a b x := by
        unfold meet
        rw [← Bool.decide_and]
        refine decide_eq_decide.mpr ⟨fun h => ?_, fun h => Int.mul_pos h.1 h.2⟩
        constructor
        · rcases Int.lt_or_eq_of_le q1 with h' | h'
          · exact h'
          · rw [← h', Int.zero_mul] at h; omega
        · rcases Int.lt_or_eq_of_le q3 with h' | h'
          · exact h'
          · rw [← h', Int.mul_zero] at h; omega
      simp only [g1, g2, v_mul lg, e, List.length_map, ups_len, downs_len, Int.cast_ofNat_Int, List.take_length, Nat.add_assoc, big, v_ix0, v_ix1, v_ix2, v_ix3, v_il0, v_il1, v_in0, v_in1, v_in2, v_tg2, v_sum_ti, v_sum_li, v_len_ti, v_eq_nil, v_ne_nil, v_eq_sd, v_ne_sd, tx_inj, v_in_li, v_eq_li, v_ne_li, v_eq_bd, v_ne_bd, eq_self, and_self, or_self, Int.reduceAdd, Int.reduceSub, Int.reduceMul, Int.reduceNeg, Int.reduceLT, Int.reduceLE, Int.reduceEq, Int.reduceNe, Nat.reduceLeDiff, Nat.reduceLT, decide_true, decide_false, Bool.not_not, ite_true, ite_false, Bool.true_eq_false, Bool.false_eq_true, Bool.and_true, Bool.true_and, Bool.and_false, Bool.false_and, Bool.or_true, Bool.true_or, Bool.or_false, Bool.false_or, Bool.false_eq_true, if_false, if_true, reduceIte, List.getElem?_cons_zero, List.getElem?_cons_succ, List.set_cons_zero, List.set_cons_succ, List.map_cons, List.map_nil, List.length_cons, List.length_nil, List.cons_append, List.nil_append, List.replicate_succ, List.replicate_zero, Nat.reduceAdd, Nat.reduceSub, Bool.not_true, Bool.not_false, decide_true, decide_false, Option.map_some, List.take_succ_cons, List.take_zero, v_g0, v_gk, v_s0, v_sk, v_tk, cl_isx, cl_sub, List.append_assoc, List.length_append, evSs, evS, evE, evAs, evFs, evIs, evB, evO, evIf, cl_scr, Out.bind_ok, Out.bind_exc, Out.bind_bad, R.wipe, v_onP_p, v_onP_n, v_onP_o, v_onP_f, v_int, v_bl, v_str, v_data, v_seq, v_obj, v_ix, v_of, v_retT, v_retT_b, v_retT_s, v_retT_l, v_retB, v_retB_b, v_add, v_sub, v_mul, v_mod, v_fdiv, v_pow, v_addl, v_addt, v_adds, v_mull, v_mult, v_lt, v_le, v_gt, v_ge, v_eq, v_ne, v_eqs, v_nes, v_isN, v_isNN, v_ltt, v_binR, v_frz_p, v_frz_n, v_pop_p, v_pop_n, v_sto_p, v_sto_n, v_sto_t, v_sto_o, v_lst, v_tup, v_lenR, v_len_s, v_bi_p, v_bi_n, v_bi_o, v_len_l, v_len_t, v_sum_l, v_sum_t, v_all, v_any, v_min_t, v_max_t, v_min_l, v_max_l, v_list_l, v_list_t, v_tuple_l, v_tuple_t, v_idx_t, v_idx_l, v_idx_n, v_idx_o, v_idx_s, v_tg1, v_app, v_seti, v_thn_n, v_thn_r, v_okB, v_noexc, v_arg_p, v_arg_n, v_arg_o, v_arg_s]
      split <;> rfl
    by_cases hc : (ups 1 24).filter (meet a b) = []
    · rw [if_pos hc]
      have d7 : decide ((ups 1 24).filter (meet a b) = []) = true := decide_eq_true hc
      simp only [d7, List.length_map, ups_len, downs_len, Int.cast_ofNat_Int, List.take_length, Nat.add_assoc, big, v_ix0, v_ix1, v_ix2, v_ix3, v_il0, v_il1, v_in0, v_in1, v_in2, v_tg2, v_sum_ti, v_sum_li, v_len_ti, v_eq_nil, v_ne_nil, v_eq_sd, v_ne_sd, tx_inj, v_in_li, v_eq_li, v_ne_li, v_eq_bd, v_ne_bd, eq_self, and_self, or_self, Int.reduceAdd, Int.reduceSub, Int.reduceMul, Int.reduceNeg, Int.reduceLT, Int.reduceLE, Int.reduceEq, Int.reduceNe, Nat.reduceLeDiff, Nat.reduceLT, decide_true, decide_false, Bool.not_not, ite_true, ite_false, Bool.true_eq_false, Bool.false_eq_true, Bool.and_true, Bool.true_and, Bool.and_false, Bool.false_and, Bool.or_true, Bool.true_or, Bool.or_false, Bool.false_or, Bool.false_eq_true, if_false, if_true, reduceIte, List.getElem?_cons_zero, List.getElem?_cons_succ, List.set_cons_zero, List.set_cons_succ, List.map_cons, List.map_nil, List.length_cons, List.length_nil, List.cons_append, List.nil_append, List.replicate_succ, List.replicate_zero, Nat.reduceAdd, Nat.reduceSub, Bool.not_true, Bool.not_false, decide_true, decide_false, Option.map_some, List.take_succ_cons, List.take_zero, v_g0, v_gk, v_s0, v_sk, v_tk, cl_isx, cl_sub, List.append_assoc, List.length_append, evSs, evS, evE, evAs, evFs, evIs, evB, evO, evIf, cl_scr, Out.bind_ok, Out.bind_exc, Out.bind_bad, R.wipe, v_onP_p, v_onP_n, v_onP_o, v_onP_f, v_int, v_bl, v_str, v_data, v_seq, v_obj, v_ix, v_of, v_retT, v_retT_b, v_retT_s, v_retT_l, v_retB, v_retB_b, v_add, v_sub, v_mul, v_mod, v_fdiv, v_pow, v_addl, v_addt, v_adds, v_mull, v_mult, v_lt, v_le, v_gt, v_ge, v_eq, v_ne, v_eqs, v_nes, v_isN, v_isNN, v_ltt, v_binR, v_frz_p, v_frz_n, v_pop_p, v_pop_n, v_sto_p, v_sto_n, v_sto_t, v_sto_o, v_lst, v_tup, v_lenR, v_len_s, v_bi_p, v_bi_n, v_bi_o, v_len_l, v_len_t, v_sum_l, v_sum_t, v_all, v_any, v_min_t, v_max_t, v_min_l, v_max_l, v_list_l, v_list_t, v_tuple_l, v_tuple_t, v_idx_t, v_idx_l, v_idx_n, v_idx_o, v_idx_s, v_tg1, v_app, v_seti, v_thn_n, v_thn_r, v_okB, v_noexc, v_arg_p, v_arg_n, v_arg_o, v_arg_s]
    · rw [if_neg hc]
      have d7 : decide ((ups 1 24).filter (meet a b) = []) = false := decide_eq_false hc
      simp only [d7, List.length_map, ups_len, downs_len, Int.cast_ofNat_Int, List.take_length, Nat.add_assoc, big, v_ix0, v_ix1, v_ix2, v_ix3, v_il0, v_il1, v_in0, v_in1, v_in2, v_tg2, v_sum_ti, v_sum_li, v_len_ti, v_eq_nil, v_ne_nil, v_eq_sd, v_ne_sd, tx_inj, v_in_li, v_eq_li, v_ne_li, v_eq_bd, v_ne_bd, eq_self, and_self, or_self, Int.reduceAdd, Int.reduceSub, Int.reduceMul, Int.reduceNeg, Int.reduceLT, Int.reduceLE, Int.reduceEq, Int.reduceNe, Nat.reduceLeDiff, Nat.reduceLT, decide_true, decide_false, Bool.not_not, ite_true, ite_false, Bool.true_eq_false, Bool.false_eq_true, Bool.and_true, Bool.true_and, Bool.and_false, Bool.false_and, Bool.or_true, Bool.true_or, Bool.or_false, Bool.false_or, Bool.false_eq_true, if_false, if_true, reduceIte, List.getElem?_cons_zero, List.getElem?_cons_succ, List.set_cons_zero, List.set_cons_succ, List.map_cons, List.map_nil, List.length_cons, List.length_nil, List.cons_append, List.nil_append, List.replicate_succ, List.replicate_zero, Nat.reduceAdd, Nat.reduceSub, Bool.not_true, Bool.not_false, decide_true, decide_false, Option.map_some, List.take_succ_cons, List.take_zero, v_g0, v_gk, v_s0, v_sk, v_tk, cl_isx, cl_sub, List.append_assoc, List.length_append, evSs, evS, evE, evAs, evFs, evIs, evB, evO, evIf, cl_scr, Out.bind_ok, Out.bind_exc, Out.bind_bad, R.wipe, v_onP_p, v_onP_n, v_onP_o, v_onP_f, v_int, v_bl, v_str, v_data, v_seq, v_obj, v_ix, v_of, v_retT, v_retT_b, v_retT_s, v_retT_l, v_retB, v_retB_b, v_add, v_sub, v_mul, v_mod, v_fdiv, v_pow, v_addl, v_addt, v_adds, v_mull, v_mult, v_lt, v_le, v_gt, v_ge, v_eq, v_ne, v_eqs, v_nes, v_isN, v_isNN, v_ltt, v_binR, v_frz_p, v_frz_n, v_pop_p, v_pop_n, v_sto_p, v_sto_n, v_sto_t, v_sto_o, v_lst, v_tup, v_lenR, v_len_s, v_bi_p, v_bi_n, v_bi_o, v_len_l, v_len_t, v_sum_l, v_sum_t, v_all, v_any, v_min_t, v_max_t, v_min_l, v_max_l, v_list_l, v_list_t, v_tuple_l, v_tuple_t, v_idx_t, v_idx_l, v_idx_n, v_idx_o, v_idx_s, v_tg1, v_app, v_seti, v_thn_n, v_thn_r, v_okB, v_noexc, v_arg_p, v_arg_n, v_arg_o, v_arg_s]
  have hex : (ups 1 24).filter (meet a b) = [] ↔ ∀ p, 1 ≤ p → p < 25 → ¬ (0 < gi a p ∧ 0 < gi b (25 - p)) := by
    rw [List.filter_eq_nil_iff]
    unfold meet
    simp only [Bool.and_eq_true, decide_eq_true_eq, mem_ups]
    exact ⟨fun h p p1 p2 => h p ⟨p1, by omega⟩, fun h p hp => h p hp.1 (by omega)⟩
  by_cases hc : (ups 1 24).filter (meet a b) = []
  case neg =>
    rw [if_neg hc] at S2
    exact end0 (not fun h => hc (hex.mpr h.2.2.2.2.2.2)) ((ss_next S0).trans ((ss_next S1).trans (ss_last S2)))
  rw [if_pos hc] at S2
  have g1 := v_sd (scr := ns) (xs := a) (μ := μ) (i := 0) (by omega) (by omega)
  have g2 := v_sd (scr := ns) (xs := b) (μ := μ) (i := 0) (by omega) (by omega)
  obtain ⟨q1, q2⟩ := side_b sa (i := 0) (by omega) (by omega)
  obtain ⟨q3, q4⟩ := side_b sb (i := 0) (by omega) (by omega)
  have S3 : evS (C ns d) s__law_is_board_3 [some (.p (bd a b)), none] μ = .ok (.rt (.p (.bl (isBoard a b)))) μ := by
    have key : isBoard a b = !(decide (gi a 0 = a.sum) && decide (gi b 0 = b.sum)) := by
      rw [Bool.eq_iff_iff, isBoard_iff]
      simp only [Bool.not_eq_true', Bool.and_eq_false_iff, decide_eq_false_iff_not]
      constructor
      · rintro ⟨_, _, _, _, h5⟩
        by_cases c : gi a 0 = a.sum
        · exact .inr fun h => h5 ⟨c, h⟩
        · exact .inl c
      · intro h
        refine ⟨sa, sb, hs, hex.mp hc, fun hh => ?_⟩
        rcases h with h | h
        · exact h hh.1
        · exact h hh.2
    by_cases c1 : gi a 0 < a.sum
    · have k1 : decide (gi a 0 < a.sum) = true := decide_eq_true c1
      have k2 : decide (gi a 0 = a.sum) = false := decide_eq_false (by omega)
      rw [key]
      simp only [s__law_is_board_3, g1, g2, k1, k2, List.length_map, ups_len, downs_len, Int.cast_ofNat_Int, List.take_length, Nat.add_assoc, big, v_ix0, v_ix1, v_ix2, v_ix3, v_il0, v_il1, v_in0, v_in1, v_in2, v_tg2, v_sum_ti, v_sum_li, v_len_ti, v_eq_nil, v_ne_nil, v_eq_sd, v_ne_sd, tx_inj, v_in_li, v_eq_li, v_ne_li, v_eq_bd, v_ne_bd, eq_self, and_self, or_self, Int.reduceAdd, Int.reduceSub, Int.reduceMul, Int.reduceNeg, Int.reduceLT, Int.reduceLE, Int.reduceEq, Int.reduceNe, Nat.reduceLeDiff, Nat.reduceLT, decide_true, decide_false, Bool.not_not, ite_true, ite_false, Bool.true_eq_false, Bool.false_eq_true, Bool.and_true, Bool.true_and, Bool.and_false, Bool.false_and, Bool.or_true, Bool.true_or, Bool.or_false, Bool.false_or, Bool.false_eq_true, if_false, if_true, reduceIte, List.getElem?_cons_zero, List.getElem?_cons_succ, List.set_cons_zero, List.set_cons_succ, List.map_cons, List.map_nil, List.length_cons, List.length_nil, List.cons_append, List.nil_append, List.replicate_succ, List.replicate_zero, Nat.reduceAdd, Nat.reduceSub, Bool.not_true, Bool.not_false, decide_true, decide_false, Option.map_some, List.take_succ_cons, List.take_zero, v_g0, v_gk, v_s0, v_sk, v_tk, cl_isx, cl_sub, List.append_assoc, List.length_append, evSs, evS, evE, evAs, evFs, evIs, evB, evO, evIf, cl_scr, Out.bind_ok, Out.bind_exc, Out.bind_bad, R.wipe, v_onP_p, v_onP_n, v_onP_o, v_onP_f, v_int, v_bl, v_str, v_data, v_seq, v_obj, v_ix, v_of, v_retT, v_retT_b, v_retT_s, v_retT_l, v_retB, v_retB_b, v_add, v_sub, v_mul, v_mod, v_fdiv, v_pow, v_addl, v_addt, v_adds, v_mull, v_mult, v_lt, v_le, v_gt, v_ge, v_eq, v_ne, v_eqs, v_nes, v_isN, v_isNN, v_ltt, v_binR, v_frz_p, v_frz_n, v_pop_p, v_pop_n, v_sto_p, v_sto_n, v_sto_t, v_sto_o, v_lst, v_tup, v_lenR, v_len_s, v_bi_p, v_bi_n, v_bi_o, v_len_l, v_len_t, v_sum_l, v_sum_t, v_all, v_any, v_min_t, v_max_t, v_min_l, v_max_l, v_list_l, v_list_t, v_tuple_l, v_tuple_t, v_idx_t, v_idx_l, v_idx_n, v_idx_o, v_idx_s, v_tg1, v_app, v_seti, v_thn_n, v_thn_r, v_okB, v_noexc, v_arg_p, v_arg_n, v_arg_o, v_arg_s]
    · have k1 : decide (gi a 0 < a.sum) = false := decide_eq_false c1
      have k2 : decide (gi a 0 = a.sum) = true := decide_eq_true (by omega)
      have k3 : decide (gi b 0 < b.sum) = !decide (gi b 0 = b.sum) := by
        rw [← decide_not]
        exact decide_eq_decide.mpr ⟨fun h => by omega, fun h => by omega⟩
      rw [key]
      simp only [s__law_is_board_3, g1, g2, k1, k2, k3, List.length_map, ups_len, downs_len, Int.cast_ofNat_Int, List.take_length, Nat.add_assoc, big, v_ix0, v_ix1, v_ix2, v_ix3, v_il0, v_il1, v_in0, v_in1, v_in2, v_tg2, v_sum_ti, v_sum_li, v_len_ti, v_eq_nil, v_ne_nil, v_eq_sd, v_ne_sd, tx_inj, v_in_li, v_eq_li, v_ne_li, v_eq_bd, v_ne_bd, eq_self, and_self, or_self, Int.reduceAdd, Int.reduceSub, Int.reduceMul, Int.reduceNeg, Int.reduceLT, Int.reduceLE, Int.reduceEq, Int.reduceNe, Nat.reduceLeDiff, Nat.reduceLT, decide_true, decide_false, Bool.not_not, ite_true, ite_false, Bool.true_eq_false, Bool.false_eq_true, Bool.and_true, Bool.true_and, Bool.and_false, Bool.false_and, Bool.or_true, Bool.true_or, Bool.or_false, Bool.false_or, Bool.false_eq_true, if_false, if_true, reduceIte, List.getElem?_cons_zero, List.getElem?_cons_succ, List.set_cons_zero, List.set_cons_succ, List.map_cons, List.map_nil, List.length_cons, List.length_nil, List.cons_append, List.nil_append, List.replicate_succ, List.replicate_zero, Nat.reduceAdd, Nat.reduceSub, Bool.not_true, Bool.not_false, decide_true, decide_false, Option.map_some, List.take_succ_cons, List.take_zero, v_g0, v_gk, v_s0, v_sk, v_tk, cl_isx, cl_sub, List.append_assoc, List.length_append, evSs, evS, evE, evAs, evFs, evIs, evB, evO, evIf, cl_scr, Out.bind_ok, Out.bind_exc, Out.bind_bad, R.wipe, v_onP_p, v_onP_n, v_onP_o, v_onP_f, v_int, v_bl, v_str, v_data, v_seq, v_obj, v_ix, v_of, v_retT, v_retT_b, v_retT_s, v_retT_l, v_retB, v_retB_b, v_add, v_sub, v_mul, v_mod, v_fdiv, v_pow, v_addl, v_addt, v_adds, v_mull, v_mult, v_lt, v_le, v_gt, v_ge, v_eq, v_ne, v_eqs, v_nes, v_isN, v_isNN, v_ltt, v_binR, v_frz_p, v_frz_n, v_pop_p, v_pop_n, v_sto_p, v_sto_n, v_sto_t, v_sto_o, v_lst, v_tup, v_lenR, v_len_s, v_bi_p, v_bi_n, v_bi_o, v_len_l, v_len_t, v_sum_l, v_sum_t, v_all, v_any, v_min_t, v_max_t, v_min_l, v_max_l, v_list_l, v_list_t, v_tuple_l, v_tuple_t, v_idx_t, v_idx_l, v_idx_n, v_idx_o, v_idx_s, v_tg1, v_app, v_seti, v_thn_n, v_thn_r, v_okB, v_noexc, v_arg_p, v_arg_n, v_arg_o, v_arg_s]
  rw [fn_ret (f := f__law_is_board) (ρ := [some (.p (bd a b)), none]) rfl rfl ((ss_next S0).trans ((ss_next S1).trans ((ss_next S2).trans (ss_last S3)))), v_pop_p, List.take_length]

end R
namespace R
open PySem
/-! ### texts of places, sides, boards -/
def plC (p : Int) : List Nat := if p = 0 then [111, 102, 102] else if p = 25 then [98, 97, 114] else TL.numL p.toNat
theorem numL_2 {n : Nat} (h : n < 100) : 1 ≤ (TL.numL n).length ∧ (TL.numL n).length ≤ 2 :=
  ⟨by have := TL.numL_ne n; cases hh : TL.numL n with
      | nil => exact absurd hh this
      | cons x l => simp, TL.numL_len (k := 2) (by decide) (by omega)⟩
theorem plC_len {p : Int} (h : 0 ≤ p ∧ p ≤ 25) : 1 ≤ (plC p).length ∧ (plC p).length ≤ 3 := by
  unfold plC
  split
  · simp
  · split
    · simp
    · have := numL_2 (n := p.toNat) (by omega)
      omega
theorem plC_free {p : Int} {c : Nat} (h : c < 48 ∨ (57 < c ∧ c < 97) ∨ 122 < c) : c ∉ plC p := by
  unfold plC
  split
  · simp only [List.mem_cons, List.not_mem_nil, or_false]; omega
  · split
    · simp only [List.mem_cons, List.not_mem_nil, or_false]; omega
    · exact TL.numL_free (by omega)
theorem fn_place_text (ns : List Int) (d : Nat) {p : Int} (h : 0 ≤ p ∧ p ≤ 25) (μ : Mu) : (C ns (d + 1)).fn 2 [.p (.int p)] μ = .ok (.p (pt (plC p))) μ := by
  rw [cl_fn (f := f_place_text) rfl]
  have hs := v_strint (i := p) (by omega) (by omega)
  have hg : getR 25 (Str.ofString "bar") 0 (Str.ofString "off") (.p (.int p)) (.p (pt (TL.numL p.toNat))) μ = .ok (.p (pt (plC p))) μ := by
    unfold plC
    simp only [getR, v_int, l_bar, l_off]
    by_cases c0 : p = 0
    · rw [if_pos c0.symm, if_pos c0]
    · rw [if_neg fun h => c0 h.symm, if_neg c0]
      by_cases c1 : p = 25
      · rw [if_pos c1.symm, if_pos c1]
      · rw [if_neg fun h => c1 h.symm, if_neg c1]
  simp only [f_place_text, s_place_text_0, evFn, hs, hg, List.length_map, ups_len, downs_len, Int.cast_ofNat_Int, List.take_length, Nat.add_assoc, big, v_ix0, v_ix1, v_ix2, v_ix3, v_il0, v_il1, v_in0, v_in1, v_in2, v_tg2, v_sum_ti, v_sum_li, v_len_ti, v_eq_nil, v_ne_nil, v_eq_sd, v_ne_sd, tx_inj, v_in_li, v_eq_li, v_ne_li, v_eq_bd, v_ne_bd, eq_self, and_self, or_self, Int.reduceAdd, Int.reduceSub, Int.reduceMul, Int.reduceNeg, Int.reduceLT, Int.reduceLE, Int.reduceEq, Int.reduceNe, Nat.reduceLeDiff, Nat.reduceLT, decide_true, decide_false, Bool.not_not, ite_true, ite_false, Bool.true_eq_false, Bool.false_eq_true, Bool.and_true, Bool.true_and, Bool.and_false, Bool.false_and, Bool.or_true, Bool.true_or, Bool.or_false, Bool.false_or, Bool.false_eq_true, if_false, if_true, reduceIte, List.getElem?_cons_zero, List.getElem?_cons_succ, List.set_cons_zero, List.set_cons_succ, List.map_cons, List.map_nil, List.length_cons, List.length_nil, List.cons_append, List.nil_append, List.replicate_succ, List.replicate_zero, Nat.reduceAdd, Nat.reduceSub, Bool.not_true, Bool.not_false, decide_true, decide_false, Option.map_some, List.take_succ_cons, List.take_zero, v_g0, v_gk, v_s0, v_sk, v_tk, cl_isx, cl_sub, List.append_assoc, List.length_append, evSs, evS, evE, evAs, evFs, evIs, evB, evO, evIf, cl_scr, Out.bind_ok, Out.bind_exc, Out.bind_bad, R.wipe, v_onP_p, v_onP_n, v_onP_o, v_onP_f, v_int, v_bl, v_str, v_data, v_seq, v_obj, v_ix, v_of, v_retT, v_retT_b, v_retT_s, v_retT_l, v_retB, v_retB_b, v_add, v_sub, v_mul, v_mod, v_fdiv, v_pow, v_addl, v_addt, v_adds, v_mull, v_mult, v_lt, v_le, v_gt, v_ge, v_eq, v_ne, v_eqs, v_nes, v_isN, v_isNN, v_ltt, v_binR, v_frz_p, v_frz_n, v_pop_p, v_pop_n, v_sto_p, v_sto_n, v_sto_t, v_sto_o, v_lst, v_tup, v_lenR, v_len_s, v_bi_p, v_bi_n, v_bi_o, v_len_l, v_len_t, v_sum_l, v_sum_t, v_all, v_any, v_min_t, v_max_t, v_min_l, v_max_l, v_list_l, v_list_t, v_tuple_l, v_tuple_t, v_idx_t, v_idx_l, v_idx_n, v_idx_o, v_idx_s, v_tg1, v_app, v_seti, v_thn_n, v_thn_r, v_okB, v_noexc, v_arg_p, v_arg_n, v_arg_o, v_arg_s]
def wordC (a : List Int) (p : Int) : List Nat := plC p ++ [58] ++ TL.numL (gi a p).toNat
def wordsC (a : List Int) : List (List Nat) := ((downs 25 26).filter fun p => decide (0 < gi a p)).map (wordC a)
def sideC (a : List Int) : List Nat := TL.joinL [32] (wordsC a)
def sepC : List Nat := [32, 124, 32]
def boardC (b : Bd) : List Nat := sideC b.1 ++ sepC ++ sideC b.2
theorem wordC_len {a : List Int} (ha : isSide a = true) {p : Int} (h : 0 ≤ p ∧ p ≤ 25) : (wordC a p).length ≤ 6 := by
  have h1 := plC_len h
  have h2 := side_b ha (i := p) (by omega) (by omega)
  have h3 := (isSide_iff.mp ha).2.2.2
  have h4 := numL_2 (n := (gi a p).toNat) (by omega)
  unfold wordC
  simp only [List.length_append, List.length_cons, List.length_nil]
  omega
theorem sum_le_k {k : Nat} : ∀ l : List Nat, (∀ x ∈ l, x ≤ k) → l.sum ≤ k * l.length
  | [], _ => by simp
  | x :: l, h => by
    have h1 := h x (by simp)
    have h2 := sum_le_k l fun y hy => h y (List.mem_cons_of_mem _ hy)
    simp only [List.sum_cons, List.length_cons, Nat.mul_add, Nat.mul_one]
    omega
theorem wordsC_len (a : List Int) : (wordsC a).length ≤ 26 := by
  unfold wordsC
  rw [List.length_map]
  exact Nat.le_trans (List.length_filter_le _ _) (by rw [downs_len]; decide)
theorem wordsC_sum {a : List Int} (ha : isSide a = true) : ((wordsC a).map List.length).sum + [32].length * (wordsC a).length ≤ 200 := by
  have h1 := wordsC_len a
  have h2 := sum_le_k (k := 6) ((wordsC a).map List.length) (fun x hx => by
    obtain ⟨w, hw, rfl⟩ := List.mem_map.mp hx
    obtain ⟨p, hp, rfl⟩ := List.mem_map.mp hw
    have := mem_downs.mp (List.mem_filter.mp hp).1
    exact wordC_len ha (by omega))
  rw [List.length_map] at h2
  simp only [List.length_cons, List.length_nil]
  omega
theorem sideC_len {a : List Int} (ha : isSide a = true) : (sideC a).length ≤ 200 := Nat.le_trans (joinL_len _) (wordsC_sum ha)
theorem boardC_len {b : Bd} (h : isBoard b.1 b.2 = true) : (boardC b).length ≤ 403 := by
  obtain ⟨h1, h2, _⟩ := isBoard_iff.mp h
  have := sideC_len h1
  have := sideC_len h2
  unfold boardC sepC
  simp only [List.length_append, List.length_cons, List.length_nil]
  omega
theorem fn_side_text (ns : List Int) (d : Nat) {a : List Int} (ha : isSide a = true) (μ : Mu) : (C ns (d + 2)).fn 3 [.p (.tup (a.map .int))] μ = .ok (.p (pt (sideC a))) μ := by
  rw [cl_fn (f := f_side_text) rfl]
  have la := (isSide_iff.mp ha).1
  have S0 : evS (C ns (d + 1)) s_side_text_0 [some (.p (sd a)), none, none] μ = .ok (.nx [some (.p (sd a)), some (.p (.lst ((wordsC a).map pt))), none]) μ := by
    simp only [s_side_text_0, v_neg, rng_25_m, List.length_map, ups_len, downs_len, Int.cast_ofNat_Int, List.take_length, Nat.add_assoc, big, v_ix0, v_ix1, v_ix2, v_ix3, v_il0, v_il1, v_in0, v_in1, v_in2, v_tg2, v_sum_ti, v_sum_li, v_len_ti, v_eq_nil, v_ne_nil, v_eq_sd, v_ne_sd, tx_inj, v_in_li, v_eq_li, v_ne_li, v_eq_bd, v_ne_bd, eq_self, and_self, or_self, Int.reduceAdd, Int.reduceSub, Int.reduceMul, Int.reduceNeg, Int.reduceLT, Int.reduceLE, Int.reduceEq, Int.reduceNe, Nat.reduceLeDiff, Nat.reduceLT, decide_true, decide_false, Bool.not_not, ite_true, ite_false, Bool.true_eq_false, Bool.false_eq_true, Bool.and_true, Bool.true_and, Bool.and_false, Bool.false_and, Bool.or_true, Bool.true_or, Bool.or_false, Bool.false_or, Bool.false_eq_true, if_false, if_true, reduceIte, List.getElem?_cons_zero, List.getElem?_cons_succ, List.set_cons_zero, List.set_cons_succ, List.map_cons, List.map_nil, List.length_cons, List.length_nil, List.cons_append, List.nil_append, List.replicate_succ, List.replicate_zero, Nat.reduceAdd, Nat.reduceSub, Bool.not_true, Bool.not_false, decide_true, decide_false, Option.map_some, List.take_succ_cons, List.take_zero, v_g0, v_gk, v_s0, v_sk, v_tk, cl_isx, cl_sub, List.append_assoc, List.length_append, evSs, evS, evE, evAs, evFs, evIs, evB, evO, evIf, cl_scr, Out.bind_ok, Out.bind_exc, Out.bind_bad, R.wipe, v_onP_p, v_onP_n, v_onP_o, v_onP_f, v_int, v_bl, v_str, v_data, v_seq, v_obj, v_ix, v_of, v_retT, v_retT_b, v_retT_s, v_retT_l, v_retB, v_retB_b, v_add, v_sub, v_mul, v_mod, v_fdiv, v_pow, v_addl, v_addt, v_adds, v_mull, v_mult, v_lt, v_le, v_gt, v_ge, v_eq, v_ne, v_eqs, v_nes, v_isN, v_isNN, v_ltt, v_binR, v_frz_p, v_frz_n, v_pop_p, v_pop_n, v_sto_p, v_sto_n, v_sto_t, v_sto_o, v_lst, v_tup, v_lenR, v_len_s, v_bi_p, v_bi_n, v_bi_o, v_len_l, v_len_t, v_sum_l, v_sum_t, v_all, v_any, v_min_t, v_max_t, v_min_l, v_max_l, v_list_l, v_list_t, v_tuple_l, v_tuple_t, v_idx_t, v_idx_l, v_idx_n, v_idx_o, v_idx_s, v_tg1, v_app, v_seti, v_thn_n, v_thn_r, v_okB, v_noexc, v_arg_p, v_arg_n, v_arg_o, v_arg_s]
    rw [compL_if (f := fun p => pt (wordC a p)) (c := fun p => decide (0 < gi a p)) ?hh]
    case hh =>
      intro p hp
      obtain ⟨p1, p2⟩ := mem_downs.mp hp
      have g := v_sd (scr := ns) (xs := a) (μ := μ) (i := p) (by omega) (by omega)
      have hb := side_b ha (i := p) (by omega) (by omega)
      have hs := (isSide_iff.mp ha).2.2.2
      have ht := fn_place_text ns d (p := p) (by omega) μ
      have hn := v_strint (i := gi a p) (by omega) (by omega)
      have h1 := plC_len (p := p) (by omega)
      have h2 := numL_2 (n := (gi a p).toNat) (by omega)
      have a1 : binP .Add (pt (plC p)) (pt [58]) = some (.p (pt (plC p ++ [58]))) := v_addtx (by show _ + 1 ≤ 1000000; omega)
      have a2 : binP .Add (pt (plC p ++ [58])) (pt (TL.numL (gi a p).toNat)) = some (.p (pt (wordC a p))) := v_addtx (by rw [List.length_append]; show _ + 1 + _ ≤ 1000000; omega)
      by_cases c : 0 < gi a p
      · have k : decide (0 < gi a p) = true := decide_eq_true c
        rw [k, if_pos rfl]
        simp only [g, k, ht, hn, l_col, a1, a2, List.length_map, ups_len, downs_len, Int.cast_ofNat_Int, List.take_length, Nat.add_assoc, big, v_ix0, v_ix1, v_ix2, v_ix3, v_il0, v_il1, v_in0, v_in1, v_in2, v_tg2, v_sum_ti, v_sum_li, v_len_ti, v_eq_nil, v_ne_nil, v_eq_sd, v_ne_sd, tx_inj, v_in_li, v_eq_li, v_ne_li, v_eq_bd, v_ne_bd, eq_self, and_self, or_self, Int.reduceAdd, Int.reduceSub, Int.reduceMul, Int.reduceNeg, Int.reduceLT, Int.reduceLE, Int.reduceEq, Int.reduceNe, Nat.reduceLeDiff, Nat.reduceLT, decide_true, decide_false, Bool.not_not, ite_true, ite_false, Bool.true_eq_false, Bool.false_eq_true, Bool.and_true, Bool.true_and, Bool.and_false, Bool.false_and, Bool.or_true, Bool.true_or, Bool.or_false, Bool.false_or, Bool.false_eq_true, if_false, if_true, reduceIte, List.getElem?_cons_zero, List.getElem?_cons_succ, List.set_cons_zero, List.set_cons_succ, List.map_cons, List.map_nil, List.length_cons, List.length_nil, List.cons_append, List.nil_append, List.replicate_succ, List.replicate_zero, Nat.reduceAdd, Nat.reduceSub, Bool.not_true, Bool.not_false, decide_true, decide_false, Option.map_some, List.take_succ_cons, List.take_zero, v_g0, v_gk, v_s0, v_sk, v_tk, cl_isx, cl_sub, List.append_assoc, List.length_append, evSs, evS, evE, evAs, evFs, evIs, evB, evO, evIf, cl_scr, Out.bind_ok, Out.bind_exc, Out.bind_bad, R.wipe, v_onP_p, v_onP_n, v_onP_o, v_onP_f, v_int, v_bl, v_str, v_data, v_seq, v_obj, v_ix, v_of, v_retT, v_retT_b, v_retT_s, v_retT_l, v_retB, v_retB_b, v_add, v_sub, v_mul, v_mod, v_fdiv, v_pow, v_addl, v_addt, v_adds, v_mull, v_mult, v_lt, v_le, v_gt, v_ge, v_eq, v_ne, v_eqs, v_nes, v_isN, v_isNN, v_ltt, v_binR, v_frz_p, v_frz_n, v_pop_p, v_pop_n, v_sto_p, v_sto_n, v_sto_t, v_sto_o, v_lst, v_tup, v_lenR, v_len_s, v_bi_p, v_bi_n, v_bi_o, v_len_l, v_len_t, v_sum_l, v_sum_t, v_all, v_any, v_min_t, v_max_t, v_min_l, v_max_l, v_list_l, v_list_t, v_tuple_l, v_tuple_t, v_idx_t, v_idx_l, v_idx_n, v_idx_o, v_idx_s, v_tg1, v_app, v_seti, v_thn_n, v_thn_r, v_okB, v_noexc, v_arg_p, v_arg_n, v_arg_o, v_arg_s]
      · have k : decide (0 < gi a p) = false := decide_eq_false c
        rw [k, if_neg Bool.false_ne_true]
        simp only [g, k, List.length_map, ups_len, downs_len, Int.cast_ofNat_Int, List.take_length, Nat.add_assoc, big, v_ix0, v_ix1, v_ix2, v_ix3, v_il0, v_il1, v_in0, v_in1, v_in2, v_tg2, v_sum_ti, v_sum_li, v_len_ti, v_eq_nil, v_ne_nil, v_eq_sd, v_ne_sd, tx_inj, v_in_li, v_eq_li, v_ne_li, v_eq_bd, v_ne_bd, eq_self, and_self, or_self, Int.reduceAdd, Int.reduceSub, Int.reduceMul, Int.reduceNeg, Int.reduceLT, Int.reduceLE, Int.reduceEq, Int.reduceNe, Nat.reduceLeDiff, Nat.reduceLT, decide_true, decide_false, Bool.not_not, ite_true, ite_false, Bool.true_eq_false, Bool.false_eq_true, Bool.and_true, Bool.true_and, Bool.and_false, Bool.false_and, Bool.or_true, Bool.true_or, Bool.or_false, Bool.false_or, Bool.false_eq_true, if_false, if_true, reduceIte, List.getElem?_cons_zero, List.getElem?_cons_succ, List.set_cons_zero, List.set_cons_succ, List.map_cons, List.map_nil, List.length_cons, List.length_nil, List.cons_append, List.nil_append, List.replicate_succ, List.replicate_zero, Nat.reduceAdd, Nat.reduceSub, Bool.not_true, Bool.not_false, decide_true, decide_false, Option.map_some, List.take_succ_cons, List.take_zero, v_g0, v_gk, v_s0, v_sk, v_tk, cl_isx, cl_sub, List.append_assoc, List.length_append, evSs, evS, evE, evAs, evFs, evIs, evB, evO, evIf, cl_scr, Out.bind_ok, Out.bind_exc, Out.bind_bad, R.wipe, v_onP_p, v_onP_n, v_onP_o, v_onP_f, v_int, v_bl, v_str, v_data, v_seq, v_obj, v_ix, v_of, v_retT, v_retT_b, v_retT_s, v_retT_l, v_retB, v_retB_b, v_add, v_sub, v_mul, v_mod, v_fdiv, v_pow, v_addl, v_addt, v_adds, v_mull, v_mult, v_lt, v_le, v_gt, v_ge, v_eq, v_ne, v_eqs, v_nes, v_isN, v_isNN, v_ltt, v_binR, v_frz_p, v_frz_n, v_pop_p, v_pop_n, v_sto_p, v_sto_n, v_sto_t, v_sto_o, v_lst, v_tup, v_lenR, v_len_s, v_bi_p, v_bi_n, v_bi_o, v_len_l, v_len_t, v_sum_l, v_sum_t, v_all, v_any, v_min_t, v_max_t, v_min_l, v_max_l, v_list_l, v_list_t, v_tuple_l, v_tuple_t, v_idx_t, v_idx_l, v_idx_n, v_idx_o, v_idx_s, v_tg1, v_app, v_seti, v_thn_n, v_thn_r, v_okB, v_noexc, v_arg_p, v_arg_n, v_arg_o, v_arg_s]
    have e : ((downs 25 26).filter fun p => decide (0 < gi a p)).map (fun p => pt (wordC a p)) = (wordsC a).map pt := by rw [wordsC, List.map_map]; rfl
    rw [e]
    simp only [List.length_map, ups_len, downs_len, Int.cast_ofNat_Int, List.take_length, Nat.add_assoc, big, v_ix0, v_ix1, v_ix2, v_ix3, v_il0, v_il1, v_in0, v_in1, v_in2, v_tg2, v_sum_ti, v_sum_li, v_len_ti, v_eq_nil, v_ne_nil, v_eq_sd, v_ne_sd, tx_inj, v_in_li, v_eq_li, v_ne_li, v_eq_bd, v_ne_bd, eq_self, and_self, or_self, Int.reduceAdd, Int.reduceSub, Int.reduceMul, Int.reduceNeg, Int.reduceLT, Int.reduceLE, Int.reduceEq, Int.reduceNe, Nat.reduceLeDiff, Nat.reduceLT, decide_true, decide_false, Bool.not_not, ite_true, ite_false, Bool.true_eq_false, Bool.false_eq_true, Bool.and_true, Bool.true_and, Bool.and_false, Bool.false_and, Bool.or_true, Bool.true_or, Bool.or_false, Bool.false_or, Bool.false_eq_true, if_false, if_true, reduceIte, List.getElem?_cons_zero, List.getElem?_cons_succ, List.set_cons_zero, List.set_cons_succ, List.map_cons, List.map_nil, List.length_cons, List.length_nil, List.cons_append, List.nil_append, List.replicate_succ, List.replicate_zero, Nat.reduceAdd, Nat.reduceSub, Bool.not_true, Bool.not_false, decide_true, decide_false, Option.map_some, List.take_succ_cons, List.take_zero, v_g0, v_gk, v_s0, v_sk, v_tk, cl_isx, cl_sub, List.append_assoc, List.length_append, evSs, evS, evE, evAs, evFs, evIs, evB, evO, evIf, cl_scr, Out.bind_ok, Out.bind_exc, Out.bind_bad, R.wipe, v_onP_p, v_onP_n, v_onP_o, v_onP_f, v_int, v_bl, v_str, v_data, v_seq, v_obj, v_ix, v_of, v_retT, v_retT_b, v_retT_s, v_retT_l, v_retB, v_retB_b, v_add, v_sub, v_mul, v_mod, v_fdiv, v_pow, v_addl, v_addt, v_adds, v_mull, v_mult, v_lt, v_le, v_gt, v_ge, v_eq, v_ne, v_eqs, v_nes, v_isN, v_isNN, v_ltt, v_binR, v_frz_p, v_frz_n, v_pop_p, v_pop_n, v_sto_p, v_sto_n, v_sto_t, v_sto_o, v_lst, v_tup, v_lenR, v_len_s, v_bi_p, v_bi_n, v_bi_o, v_len_l, v_len_t, v_sum_l, v_sum_t, v_all, v_any, v_min_t, v_max_t, v_min_l, v_max_l, v_list_l, v_list_t, v_tuple_l, v_tuple_t, v_idx_t, v_idx_l, v_idx_n, v_idx_o, v_idx_s, v_tg1, v_app, v_seti, v_thn_n, v_thn_r, v_okB, v_noexc, v_arg_p, v_arg_n, v_arg_o, v_arg_s]
  have hj : meP .join (pt [32]) [.lst ((wordsC a).map pt)] = some (.p (pt (sideC a))) := v_join (by have := wordsC_sum ha; show _ ≤ 1000000; omega)
  have S1 : evS (C ns (d + 1)) s_side_text_1 [some (.p (sd a)), some (.p (.lst ((wordsC a).map pt))), none] μ = .ok (.rt (.p (pt (sideC a)))) μ := by
    have hm : meR .join (tx [32]) (.p (.lst ((wordsC a).map pt))) μ = .ok (.p (pt (sideC a))) μ := by simp only [meR, v_onP_p, hj, v_of]
    generalize (wordsC a).map pt = W at *
    simp only [s_side_text_1, l_sp, hm, List.length_map, ups_len, downs_len, Int.cast_ofNat_Int, List.take_length, Nat.add_assoc, big, v_ix0, v_ix1, v_ix2, v_ix3, v_il0, v_il1, v_in0, v_in1, v_in2, v_tg2, v_sum_ti, v_sum_li, v_len_ti, v_eq_nil, v_ne_nil, v_eq_sd, v_ne_sd, tx_inj, v_in_li, v_eq_li, v_ne_li, v_eq_bd, v_ne_bd, eq_self, and_self, or_self, Int.reduceAdd, Int.reduceSub, Int.reduceMul, Int.reduceNeg, Int.reduceLT, Int.reduceLE, Int.reduceEq, Int.reduceNe, Nat.reduceLeDiff, Nat.reduceLT, decide_true, decide_false, Bool.not_not, ite_true, ite_false, Bool.true_eq_false, Bool.false_eq_true, Bool.and_true, Bool.true_and, Bool.and_false, Bool.false_and, Bool.or_true, Bool.true_or, Bool.or_false, Bool.false_or, Bool.false_eq_true, if_false, if_true, reduceIte, List.getElem?_cons_zero, List.getElem?_cons_succ, List.set_cons_zero, List.set_cons_succ, List.map_cons, List.map_nil, List.length_cons, List.length_nil, List.cons_append, List.nil_append, List.replicate_succ, List.replicate_zero, Nat.reduceAdd, Nat.reduceSub, Bool.not_true, Bool.not_false, decide_true, decide_false, Option.map_some, List.take_succ_cons, List.take_zero, v_g0, v_gk, v_s0, v_sk, v_tk, cl_isx, cl_sub, List.append_assoc, List.length_append, evSs, evS, evE, evAs, evFs, evIs, evB, evO, evIf, cl_scr, Out.bind_ok, Out.bind_exc, Out.bind_bad, R.wipe, v_onP_p, v_onP_n, v_onP_o, v_onP_f, v_int, v_bl, v_str, v_data, v_seq, v_obj, v_ix, v_of, v_retT, v_retT_b, v_retT_s, v_retT_l, v_retB, v_retB_b, v_add, v_sub, v_mul, v_mod, v_fdiv, v_pow, v_addl, v_addt, v_adds, v_mull, v_mult, v_lt, v_le, v_gt, v_ge, v_eq, v_ne, v_eqs, v_nes, v_isN, v_isNN, v_ltt, v_binR, v_frz_p, v_frz_n, v_pop_p, v_pop_n, v_sto_p, v_sto_n, v_sto_t, v_sto_o, v_lst, v_tup, v_lenR, v_len_s, v_bi_p, v_bi_n, v_bi_o, v_len_l, v_len_t, v_sum_l, v_sum_t, v_all, v_any, v_min_t, v_max_t, v_min_l, v_max_l, v_list_l, v_list_t, v_tuple_l, v_tuple_t, v_idx_t, v_idx_l, v_idx_n, v_idx_o, v_idx_s, v_tg1, v_app, v_seti, v_thn_n, v_thn_r, v_okB, v_noexc, v_arg_p, v_arg_n, v_arg_o, v_arg_s]
  rw [fn_ret (f := f_side_text) (ρ := [some (.p (sd a)), none, none]) rfl rfl ((ss_next S0).trans (ss_last S1)), v_pop_p, List.take_length]
theorem fn_board_text (ns : List Int) (d : Nat) {b : Bd} (h : isBoard b.1 b.2 = true) (μ : Mu) : (C ns (d + 3)).fn 4 [.p (encB b)] μ = .ok (.p (pt (boardC b))) μ := by
  rw [cl_fn (f := f_board_text) rfl]
  obtain ⟨h1, h2, _⟩ := isBoard_iff.mp h
  have e0 : (C ns (d + 2)).fn 1 [.p (encB b)] μ = .ok (.p .non) μ := fn_look_ok ns d h μ
  have e1 := fn_side_text ns d h1 μ
  have e2 := fn_side_text ns d h2 μ
  have l1 := sideC_len h1
  have l2 := sideC_len h2
  have a1 : binP .Add (pt (sideC b.1)) (pt sepC) = some (.p (pt (sideC b.1 ++ sepC))) := v_addtx (by show _ + 3 ≤ 1000000; omega)
  have a2 : binP .Add (pt (sideC b.1 ++ sepC)) (pt (sideC b.2)) = some (.p (pt (boardC b))) := v_addtx (by rw [List.length_append]; show _ + 3 + _ ≤ 1000000; omega)
  have S0 : evS (C ns (d + 2)) s_board_text_0 [some (.p (encB b))] μ = .ok (.nx [some (.p (encB b))]) μ := by
    generalize encB b = B at *
    simp only [s_board_text_0, e0, List.length_map, ups_len, downs_len, Int.cast_ofNat_Int, List.take_length, Nat.add_assoc, big, v_ix0, v_ix1, v_ix2, v_ix3, v_il0, v_il1, v_in0, v_in1, v_in2, v_tg2, v_sum_ti, v_sum_li, v_len_ti, v_eq_nil, v_ne_nil, v_eq_sd, v_ne_sd, tx_inj, v_in_li, v_eq_li, v_ne_li, v_eq_bd, v_ne_bd, eq_self, and_self, or_self, Int.reduceAdd, Int.reduceSub, Int.reduceMul, Int.reduceNeg, Int.reduceLT, Int.reduceLE, Int.reduceEq, Int.reduceNe, Nat.reduceLeDiff, Nat.reduceLT, decide_true, decide_false, Bool.not_not, ite_true, ite_false, Bool.true_eq_false, Bool.false_eq_true, Bool.and_true, Bool.true_and, Bool.and_false, Bool.false_and, Bool.or_true, Bool.true_or, Bool.or_false, Bool.false_or, Bool.false_eq_true, if_false, if_true, reduceIte, List.getElem?_cons_zero, List.getElem?_cons_succ, List.set_cons_zero, List.set_cons_succ, List.map_cons, List.map_nil, List.length_cons, List.length_nil, List.cons_append, List.nil_append, List.replicate_succ, List.replicate_zero, Nat.reduceAdd, Nat.reduceSub, Bool.not_true, Bool.not_false, decide_true, decide_false, Option.map_some, List.take_succ_cons, List.take_zero, v_g0, v_gk, v_s0, v_sk, v_tk, cl_isx, cl_sub, List.append_assoc, List.length_append, evSs, evS, evE, evAs, evFs, evIs, evB, evO, evIf, cl_scr, Out.bind_ok, Out.bind_exc, Out.bind_bad, R.wipe, v_onP_p, v_onP_n, v_onP_o, v_onP_f, v_int, v_bl, v_str, v_data, v_seq, v_obj, v_ix, v_of, v_retT, v_retT_b, v_retT_s, v_retT_l, v_retB, v_retB_b, v_add, v_sub, v_mul, v_mod, v_fdiv, v_pow, v_addl, v_addt, v_adds, v_mull, v_mult, v_lt, v_le, v_gt, v_ge, v_eq, v_ne, v_eqs, v_nes, v_isN, v_isNN, v_ltt, v_binR, v_frz_p, v_frz_n, v_pop_p, v_pop_n, v_sto_p, v_sto_n, v_sto_t, v_sto_o, v_lst, v_tup, v_lenR, v_len_s, v_bi_p, v_bi_n, v_bi_o, v_len_l, v_len_t, v_sum_l, v_sum_t, v_all, v_any, v_min_t, v_max_t, v_min_l, v_max_l, v_list_l, v_list_t, v_tuple_l, v_tuple_t, v_idx_t, v_idx_l, v_idx_n, v_idx_o, v_idx_s, v_tg1, v_app, v_seti, v_thn_n, v_thn_r, v_okB, v_noexc, v_arg_p, v_arg_n, v_arg_o, v_arg_s]
  have ls : Str.ofString " | " = tx sepC := l_sep
  have S1 : evS (C ns (d + 2)) s_board_text_1 [some (.p (encB b))] μ = .ok (.rt (.p (pt (boardC b)))) μ := by
    generalize boardC b = T at *
    generalize sepC = U at *
    simp only [s_board_text_1, encB, e1, e2, ls, a1, a2, List.length_map, ups_len, downs_len, Int.cast_ofNat_Int, List.take_length, Nat.add_assoc, big, v_ix0, v_ix1, v_ix2, v_ix3, v_il0, v_il1, v_in0, v_in1, v_in2, v_tg2, v_sum_ti, v_sum_li, v_len_ti, v_eq_nil, v_ne_nil, v_eq_sd, v_ne_sd, tx_inj, v_in_li, v_eq_li, v_ne_li, v_eq_bd, v_ne_bd, eq_self, and_self, or_self, Int.reduceAdd, Int.reduceSub, Int.reduceMul, Int.reduceNeg, Int.reduceLT, Int.reduceLE, Int.reduceEq, Int.reduceNe, Nat.reduceLeDiff, Nat.reduceLT, decide_true, decide_false, Bool.not_not, ite_true, ite_false, Bool.true_eq_false, Bool.false_eq_true, Bool.and_true, Bool.true_and, Bool.and_false, Bool.false_and, Bool.or_true, Bool.true_or, Bool.or_false, Bool.false_or, Bool.false_eq_true, if_false, if_true, reduceIte, List.getElem?_cons_zero, List.getElem?_cons_succ, List.set_cons_zero, List.set_cons_succ, List.map_cons, List.map_nil, List.length_cons, List.length_nil, List.cons_append, List.nil_append, List.replicate_succ, List.replicate_zero, Nat.reduceAdd, Nat.reduceSub, Bool.not_true, Bool.not_false, decide_true, decide_false, Option.map_some, List.take_succ_cons, List.take_zero, v_g0, v_gk, v_s0, v_sk, v_tk, cl_isx, cl_sub, List.append_assoc, List.length_append, evSs, evS, evE, evAs, evFs, evIs, evB, evO, evIf, cl_scr, Out.bind_ok, Out.bind_exc, Out.bind_bad, R.wipe, v_onP_p, v_onP_n, v_onP_o, v_onP_f, v_int, v_bl, v_str, v_data, v_seq, v_obj, v_ix, v_of, v_retT, v_retT_b, v_retT_s, v_retT_l, v_retB, v_retB_b, v_add, v_sub, v_mul, v_mod, v_fdiv, v_pow, v_addl, v_addt, v_adds, v_mull, v_mult, v_lt, v_le, v_gt, v_ge, v_eq, v_ne, v_eqs, v_nes, v_isN, v_isNN, v_ltt, v_binR, v_frz_p, v_frz_n, v_pop_p, v_pop_n, v_sto_p, v_sto_n, v_sto_t, v_sto_o, v_lst, v_tup, v_lenR, v_len_s, v_bi_p, v_bi_n, v_bi_o, v_len_l, v_len_t, v_sum_l, v_sum_t, v_all, v_any, v_min_t, v_max_t, v_min_l, v_max_l, v_list_l, v_list_t, v_tuple_l, v_tuple_t, v_idx_t, v_idx_l, v_idx_n, v_idx_o, v_idx_s, v_tg1, v_app, v_seti, v_thn_n, v_thn_r, v_okB, v_noexc, v_arg_p, v_arg_n, v_arg_o, v_arg_s]
  rw [fn_ret (f := f_board_text) (ρ := [some (.p (encB b))]) rfl rfl ((ss_next S0).trans (ss_last S1)), v_pop_p, List.take_length]
theorem fn_board_text_bad (ns : List Int) (d : Nat) {b : Bd} (ha : b.1.length ≤ 1000) (hb : b.2.length ≤ 1000) (h : isBoard b.1 b.2 = false) (μ : Mu) : (C ns (d + 3)).fn 4 [.p (encB b)] μ = .exc "BadBoard" μ := by
  rw [cl_fn (f := f_board_text) rfl]
  have e0 : (C ns (d + 2)).fn 1 [.p (encB b)] μ = .exc "BadBoard" μ := fn_look_bad ns d ha hb h μ
  have S0 : evS (C ns (d + 2)) s_board_text_0 [some (.p (encB b))] μ = .exc "BadBoard" μ := by
    generalize encB b = B at *
    simp only [s_board_text_0, e0, List.length_map, ups_len, downs_len, Int.cast_ofNat_Int, List.take_length, Nat.add_assoc, big, v_ix0, v_ix1, v_ix2, v_ix3, v_il0, v_il1, v_in0, v_in1, v_in2, v_tg2, v_sum_ti, v_sum_li, v_len_ti, v_eq_nil, v_ne_nil, v_eq_sd, v_ne_sd, tx_inj, v_in_li, v_eq_li, v_ne_li, v_eq_bd, v_ne_bd, eq_self, and_self, or_self, Int.reduceAdd, Int.reduceSub, Int.reduceMul, Int.reduceNeg, Int.reduceLT, Int.reduceLE, Int.reduceEq, Int.reduceNe, Nat.reduceLeDiff, Nat.reduceLT, decide_true, decide_false, Bool.not_not, ite_true, ite_false, Bool.true_eq_false, Bool.false_eq_true, Bool.and_true, Bool.true_and, Bool.and_false, Bool.false_and, Bool.or_true, Bool.true_or, Bool.or_false, Bool.false_or, Bool.false_eq_true, if_false, if_true, reduceIte, List.getElem?_cons_zero, List.getElem?_cons_succ, List.set_cons_zero, List.set_cons_succ, List.map_cons, List.map_nil, List.length_cons, List.length_nil, List.cons_append, List.nil_append, List.replicate_succ, List.replicate_zero, Nat.reduceAdd, Nat.reduceSub, Bool.not_true, Bool.not_false, decide_true, decide_false, Option.map_some, List.take_succ_cons, List.take_zero, v_g0, v_gk, v_s0, v_sk, v_tk, cl_isx, cl_sub, List.append_assoc, List.length_append, evSs, evS, evE, evAs, evFs, evIs, evB, evO, evIf, cl_scr, Out.bind_ok, Out.bind_exc, Out.bind_bad, R.wipe, v_onP_p, v_onP_n, v_onP_o, v_onP_f, v_int, v_bl, v_str, v_data, v_seq, v_obj, v_ix, v_of, v_retT, v_retT_b, v_retT_s, v_retT_l, v_retB, v_retB_b, v_add, v_sub, v_mul, v_mod, v_fdiv, v_pow, v_addl, v_addt, v_adds, v_mull, v_mult, v_lt, v_le, v_gt, v_ge, v_eq, v_ne, v_eqs, v_nes, v_isN, v_isNN, v_ltt, v_binR, v_frz_p, v_frz_n, v_pop_p, v_pop_n, v_sto_p, v_sto_n, v_sto_t, v_sto_o, v_lst, v_tup, v_lenR, v_len_s, v_bi_p, v_bi_n, v_bi_o, v_len_l, v_len_t, v_sum_l, v_sum_t, v_all, v_any, v_min_t, v_max_t, v_min_l, v_max_l, v_list_l, v_list_t, v_tuple_l, v_tuple_t, v_idx_t, v_idx_l, v_idx_n, v_idx_o, v_idx_s, v_tg1, v_app, v_seti, v_thn_n, v_thn_r, v_okB, v_noexc, v_arg_p, v_arg_n, v_arg_o, v_arg_s]
  rw [fn_exc (f := f_board_text) (ρ := [some (.p (encB b))]) rfl rfl (ss_exc S0), List.take_length]
/-! ### read -/
def isDig (c : Nat) : Bool := decide (48 ≤ c) && decide (c ≤ 57)
def numIn (w : List Nat) (most : Int) : Option Int := if (1 ≤ w.length ∧ w.length ≤ 2) ∧ w.all isDig = true ∧ w.headD 0 ≠ 48 ∧ ((NumText.digitsVal w : Nat) : Int) ≤ most then some ((NumText.digitsVal w : Nat) : Int) else none
def orText (x : Option Int) (μ : Mu) : Out Rv := match x with
  | some v => .ok (.p (.int v)) μ
  | none => .exc "BadText" μ
theorem mem_fig {c : Nat} : decide (c ∈ [48, 49, 50, 51, 52, 53, 54, 55, 56, 57]) = isDig c := by
  unfold isDig
  rw [← Bool.decide_and]
  refine decide_eq_decide.mpr ?_
  simp only [List.mem_cons, List.not_mem_nil, or_false]
  omega
theorem fn_number_in (ns : List Int) (d : Nat) (w : List Nat) (hw : w.length ≤ 1000) (most : Int) (μ : Mu) : (C ns (d + 1)).fn 5 [.p (pt w), .p (.int most)] μ = orText (numIn w most) μ := by
  rw [cl_fn (f := f_number_in) rfl]
  unfold numIn
  have hlw := v_lentx (a := w) (by show _ ≤ 1000000; omega)
  have bad : evS (C ns d) s_number_in_0 [some (.p (pt w)), some (.p (.int most)), none] μ = .exc "BadText" μ → evFn (C ns d) f_number_in [.p (pt w), .p (.int most)] μ = .exc "BadText" μ := fun e => by
    rw [fn_exc (f := f_number_in) (ρ := [some (.p (pt w)), some (.p (.int most)), none]) rfl rfl (ss_exc e), List.take_length]
  by_cases c0 : 1 ≤ w.length ∧ w.length ≤ 2
  case neg =>
    rw [if_neg fun h => c0 h.1]
    refine bad ?_
    by_cases c1 : 1 ≤ w.length
    · have k1 : decide ((1 : Int) ≤ (w.length : Int)) = true := decide_eq_true (by omega)
      have k2 : decide ((w.length : Int) ≤ 2) = false := decide_eq_false (by omega)
      simp only [s_number_in_0, s_number_in_0a_0, hlw, k1, k2, List.length_map, ups_len, downs_len, Int.cast_ofNat_Int, List.take_length, Nat.add_assoc, big, v_ix0, v_ix1, v_ix2, v_ix3, v_il0, v_il1, v_in0, v_in1, v_in2, v_tg2, v_sum_ti, v_sum_li, v_len_ti, v_eq_nil, v_ne_nil, v_eq_sd, v_ne_sd, tx_inj, v_in_li, v_eq_li, v_ne_li, v_eq_bd, v_ne_bd, eq_self, and_self, or_self, Int.reduceAdd, Int.reduceSub, Int.reduceMul, Int.reduceNeg, Int.reduceLT, Int.reduceLE, Int.reduceEq, Int.reduceNe, Nat.reduceLeDiff, Nat.reduceLT, decide_true, decide_false, Bool.not_not, ite_true, ite_false, Bool.true_eq_false, Bool.false_eq_true, Bool.and_true, Bool.true_and, Bool.and_false, Bool.false_and, Bool.or_true, Bool.true_or, Bool.or_false, Bool.false_or, Bool.false_eq_true, if_false, if_true, reduceIte, List.getElem?_cons_zero, List.getElem?_cons_succ, List.set_cons_zero, List.set_cons_succ, List.map_cons, List.map_nil, List.length_cons, List.length_nil, List.cons_append, List.nil_append, List.replicate_succ, List.replicate_zero, Nat.reduceAdd, Nat.reduceSub, Bool.not_true, Bool.not_false, decide_true, decide_false, Option.map_some, List.take_succ_cons, List.take_zero, v_g0, v_gk, v_s0, v_sk, v_tk, cl_isx, cl_sub, List.append_assoc, List.length_append, evSs, evS, evE, evAs, evFs, evIs, evB, evO, evIf, cl_scr, Out.bind_ok, Out.bind_exc, Out.bind_bad, R.wipe, v_onP_p, v_onP_n, v_onP_o, v_onP_f, v_int, v_bl, v_str, v_data, v_seq, v_obj, v_ix, v_of, v_retT, v_retT_b, v_retT_s, v_retT_l, v_retB, v_retB_b, v_add, v_sub, v_mul, v_mod, v_fdiv, v_pow, v_addl, v_addt, v_adds, v_mull, v_mult, v_lt, v_le, v_gt, v_ge, v_eq, v_ne, v_eqs, v_nes, v_isN, v_isNN, v_ltt, v_binR, v_frz_p, v_frz_n, v_pop_p, v_pop_n, v_sto_p, v_sto_n, v_sto_t, v_sto_o, v_lst, v_tup, v_lenR, v_len_s, v_bi_p, v_bi_n, v_bi_o, v_len_l, v_len_t, v_sum_l, v_sum_t, v_all, v_any, v_min_t, v_max_t, v_min_l, v_max_l, v_list_l, v_list_t, v_tuple_l, v_tuple_t, v_idx_t, v_idx_l, v_idx_n, v_idx_o, v_idx_s, v_tg1, v_app, v_seti, v_thn_n, v_thn_r, v_okB, v_noexc, v_arg_p, v_arg_n, v_arg_o, v_arg_s]
      try rfl
    · have k1 : decide ((1 : Int) ≤ (w.length : Int)) = false := decide_eq_false (by omega)
      simp only [s_number_in_0, s_number_in_0a_0, hlw, k1, List.length_map, ups_len, downs_len, Int.cast_ofNat_Int, List.take_length, Nat.add_assoc, big, v_ix0, v_ix1, v_ix2, v_ix3, v_il0, v_il1, v_in0, v_in1, v_in2, v_tg2, v_sum_ti, v_sum_li, v_len_ti, v_eq_nil, v_ne_nil, v_eq_sd, v_ne_sd, tx_inj, v_in_li, v_eq_li, v_ne_li, v_eq_bd, v_ne_bd, eq_self, and_self, or_self, Int.reduceAdd, Int.reduceSub, Int.reduceMul, Int.reduceNeg, Int.reduceLT, Int.reduceLE, Int.reduceEq, Int.reduceNe, Nat.reduceLeDiff, Nat.reduceLT, decide_true, decide_false, Bool.not_not, ite_true, ite_false, Bool.true_eq_false, Bool.false_eq_true, Bool.and_true, Bool.true_and, Bool.and_false, Bool.false_and, Bool.or_true, Bool.true_or, Bool.or_false, Bool.false_or, Bool.false_eq_true, if_false, if_true, reduceIte, List.getElem?_cons_zero, List.getElem?_cons_succ, List.set_cons_zero, List.set_cons_succ, List.map_cons, List.map_nil, List.length_cons, List.length_nil, List.cons_append, List.nil_append, List.replicate_succ, List.replicate_zero, Nat.reduceAdd, Nat.reduceSub, Bool.not_true, Bool.not_false, decide_true, decide_false, Option.map_some, List.take_succ_cons, List.take_zero, v_g0, v_gk, v_s0, v_sk, v_tk, cl_isx, cl_sub, List.append_assoc, List.length_append, evSs, evS, evE, evAs, evFs, evIs, evB, evO, evIf, cl_scr, Out.bind_ok, Out.bind_exc, Out.bind_bad, R.wipe, v_onP_p, v_onP_n, v_onP_o, v_onP_f, v_int, v_bl, v_str, v_data, v_seq, v_obj, v_ix, v_of, v_retT, v_retT_b, v_retT_s, v_retT_l, v_retB, v_retB_b, v_add, v_sub, v_mul, v_mod, v_fdiv, v_pow, v_addl, v_addt, v_adds, v_mull, v_mult, v_lt, v_le, v_gt, v_ge, v_eq, v_ne, v_eqs, v_nes, v_isN, v_isNN, v_ltt, v_binR, v_frz_p, v_frz_n, v_pop_p, v_pop_n, v_sto_p, v_sto_n, v_sto_t, v_sto_o, v_lst, v_tup, v_lenR, v_len_s, v_bi_p, v_bi_n, v_bi_o, v_len_l, v_len_t, v_sum_l, v_sum_t, v_all, v_any, v_min_t, v_max_t, v_min_l, v_max_l, v_list_l, v_list_t, v_tuple_l, v_tuple_t, v_idx_t, v_idx_l, v_idx_n, v_idx_o, v_idx_s, v_tg1, v_app, v_seti, v_thn_n, v_thn_r, v_okB, v_noexc, v_arg_p, v_arg_n, v_arg_o, v_arg_s]
      try rfl
  have k1 : decide ((1 : Int) ≤ (w.length : Int)) = true := decide_eq_true (by omega)
  have k2 : decide ((w.length : Int) ≤ 2) = true := decide_eq_true (by omega)
  have hbig : (w.map fun c => pt [c]).length ≤ big := by rw [List.length_map]; show _ ≤ 1000000; omega
  have A : evE (C ns d) (.bi .all (.comp (.cmp .In (.var 2) (.glb (Str.ofString "FIGURES") (.str (Str.ofString "0123456789")))) false [2] false [(.var 0)] [] [2])) true [some (.p (pt w)), some (.p (.int most)), none] μ = .ok (.p (.bl (w.all isDig))) μ := by
    simp only [items_tx, v_lenR hbig, l_fig, Bool.false_eq_true, if_false, if_true, reduceIte, List.getElem?_cons_zero, List.getElem?_cons_succ, List.set_cons_zero, List.set_cons_succ, List.map_cons, List.map_nil, List.length_cons, List.length_nil, List.cons_append, List.nil_append, List.replicate_succ, List.replicate_zero, Nat.reduceAdd, Nat.reduceSub, Bool.not_true, Bool.not_false, decide_true, decide_false, Option.map_some, List.take_succ_cons, List.take_zero, v_g0, v_gk, v_s0, v_sk, v_tk, cl_isx, cl_sub, List.append_assoc, List.length_append, evSs, evS, evE, evAs, evFs, evIs, evB, evO, evIf, cl_scr, Out.bind_ok, Out.bind_exc, Out.bind_bad, R.wipe, v_onP_p, v_onP_n, v_onP_o, v_onP_f, v_int, v_bl, v_str, v_data, v_seq, v_obj, v_ix, v_of, v_retT, v_retT_b, v_retT_s, v_retT_l, v_retB, v_retB_b, v_add, v_sub, v_mul, v_mod, v_fdiv, v_pow, v_addl, v_addt, v_adds, v_mull, v_mult, v_lt, v_le, v_gt, v_ge, v_eq, v_ne, v_eqs, v_nes, v_isN, v_isNN, v_ltt, v_binR, v_frz_p, v_frz_n, v_pop_p, v_pop_n, v_sto_p, v_sto_n, v_sto_t, v_sto_o, v_lst, v_tup, v_lenR, v_len_s, v_bi_p, v_bi_n, v_bi_o, v_len_l, v_len_t, v_sum_l, v_sum_t, v_all, v_any, v_min_t, v_max_t, v_min_l, v_max_l, v_list_l, v_list_t, v_tuple_l, v_tuple_t, v_idx_t, v_idx_l, v_idx_n, v_idx_o, v_idx_s, v_tg1, v_app, v_seti, v_thn_n, v_thn_r, v_okB, v_noexc, v_arg_p, v_arg_n, v_arg_o, v_arg_s]
    rw [compL_g (g := fun c => pt [c]) (f := fun c => P.bl (isDig c)) ?hh]
    case hh =>
      intro c hc
      have hi : ∀ f : Bool → Out Rv, cmpR .In (.p (pt [c])) (.p (pt [48, 49, 50, 51, 52, 53, 54, 55, 56, 57])) μ f = f (isDig c) := fun f => by rw [v_inone, mem_fig]
      simp only [hi, Bool.false_eq_true, if_false, if_true, reduceIte, List.getElem?_cons_zero, List.getElem?_cons_succ, List.set_cons_zero, List.set_cons_succ, List.map_cons, List.map_nil, List.length_cons, List.length_nil, List.cons_append, List.nil_append, List.replicate_succ, List.replicate_zero, Nat.reduceAdd, Nat.reduceSub, Bool.not_true, Bool.not_false, decide_true, decide_false, Option.map_some, List.take_succ_cons, List.take_zero, v_g0, v_gk, v_s0, v_sk, v_tk, cl_isx, cl_sub, List.append_assoc, List.length_append, evSs, evS, evE, evAs, evFs, evIs, evB, evO, evIf, cl_scr, Out.bind_ok, Out.bind_exc, Out.bind_bad, R.wipe, v_onP_p, v_onP_n, v_onP_o, v_onP_f, v_int, v_bl, v_str, v_data, v_seq, v_obj, v_ix, v_of, v_retT, v_retT_b, v_retT_s, v_retT_l, v_retB, v_retB_b, v_add, v_sub, v_mul, v_mod, v_fdiv, v_pow, v_addl, v_addt, v_adds, v_mull, v_mult, v_lt, v_le, v_gt, v_ge, v_eq, v_ne, v_eqs, v_nes, v_isN, v_isNN, v_ltt, v_binR, v_frz_p, v_frz_n, v_pop_p, v_pop_n, v_sto_p, v_sto_n, v_sto_t, v_sto_o, v_lst, v_tup, v_lenR, v_len_s, v_bi_p, v_bi_n, v_bi_o, v_len_l, v_len_t, v_sum_l, v_sum_t, v_all, v_any, v_min_t, v_max_t, v_min_l, v_max_l, v_list_l, v_list_t, v_tuple_l, v_tuple_t, v_idx_t, v_idx_l, v_idx_n, v_idx_o, v_idx_s, v_tg1, v_app, v_seti, v_thn_n, v_thn_r, v_okB, v_noexc, v_arg_p, v_arg_n, v_arg_o, v_arg_s]
    simp only [v_alll, Bool.false_eq_true, if_false, if_true, reduceIte, List.getElem?_cons_zero, List.getElem?_cons_succ, List.set_cons_zero, List.set_cons_succ, List.map_cons, List.map_nil, List.length_cons, List.length_nil, List.cons_append, List.nil_append, List.replicate_succ, List.replicate_zero, Nat.reduceAdd, Nat.reduceSub, Bool.not_true, Bool.not_false, decide_true, decide_false, Option.map_some, List.take_succ_cons, List.take_zero, v_g0, v_gk, v_s0, v_sk, v_tk, cl_isx, cl_sub, List.append_assoc, List.length_append, evSs, evS, evE, evAs, evFs, evIs, evB, evO, evIf, cl_scr, Out.bind_ok, Out.bind_exc, Out.bind_bad, R.wipe, v_onP_p, v_onP_n, v_onP_o, v_onP_f, v_int, v_bl, v_str, v_data, v_seq, v_obj, v_ix, v_of, v_retT, v_retT_b, v_retT_s, v_retT_l, v_retB, v_retB_b, v_add, v_sub, v_mul, v_mod, v_fdiv, v_pow, v_addl, v_addt, v_adds, v_mull, v_mult, v_lt, v_le, v_gt, v_ge, v_eq, v_ne, v_eqs, v_nes, v_isN, v_isNN, v_ltt, v_binR, v_frz_p, v_frz_n, v_pop_p, v_pop_n, v_sto_p, v_sto_n, v_sto_t, v_sto_o, v_lst, v_tup, v_lenR, v_len_s, v_bi_p, v_bi_n, v_bi_o, v_len_l, v_len_t, v_sum_l, v_sum_t, v_all, v_any, v_min_t, v_max_t, v_min_l, v_max_l, v_list_l, v_list_t, v_tuple_l, v_tuple_t, v_idx_t, v_idx_l, v_idx_n, v_idx_o, v_idx_s, v_tg1, v_app, v_seti, v_thn_n, v_thn_r, v_okB, v_noexc, v_arg_p, v_arg_n, v_arg_o, v_arg_s]
  generalize hA : (E.bi Bi.all (.comp (.cmp .In (.var 2) (.glb (Str.ofString "FIGURES") (.str (Str.ofString "0123456789")))) false [2] false [(.var 0)] [] [2])) = eA at *
  have s0 : s_number_in_0 = .ife (.boo false [(.not (.chn .LtE .LtE (.cst (.int 1)) (.bi .len (.var 0)) (.cst (.int 2)))), (.not eA), (.cmp .Eq (.idx (.var 0) (.cst (.int 0))) (.cst (.str (Str.ofString "0"))))]) [s_number_in_0a_0] [] := by rw [← hA]; rfl
  cases c1 : w.all isDig with
  | false =>
    rw [c1] at A
    rw [if_neg fun h => Bool.noConfusion h.2.1]
    refine bad ?_
    rw [s0]
    simp only [s_number_in_0a_0, hlw, k1, k2, A, List.length_map, ups_len, downs_len, Int.cast_ofNat_Int, List.take_length, Nat.add_assoc, big, v_ix0, v_ix1, v_ix2, v_ix3, v_il0, v_il1, v_in0, v_in1, v_in2, v_tg2, v_sum_ti, v_sum_li, v_len_ti, v_eq_nil, v_ne_nil, v_eq_sd, v_ne_sd, tx_inj, v_in_li, v_eq_li, v_ne_li, v_eq_bd, v_ne_bd, eq_self, and_self, or_self, Int.reduceAdd, Int.reduceSub, Int.reduceMul, Int.reduceNeg, Int.reduceLT, Int.reduceLE, Int.reduceEq, Int.reduceNe, Nat.reduceLeDiff, Nat.reduceLT, decide_true, decide_false, Bool.not_not, ite_true, ite_false, Bool.true_eq_false, Bool.false_eq_true, Bool.and_true, Bool.true_and, Bool.and_false, Bool.false_and, Bool.or_true, Bool.true_or, Bool.or_false, Bool.false_or, Bool.false_eq_true, if_false, if_true, reduceIte, List.getElem?_cons_zero, List.getElem?_cons_succ, List.set_cons_zero, List.set_cons_succ, List.map_cons, List.map_nil, List.length_cons, List.length_nil, List.cons_append, List.nil_append, List.replicate_succ, List.replicate_zero, Nat.reduceAdd, Nat.reduceSub, Bool.not_true, Bool.not_false, decide_true, decide_false, Option.map_some, List.take_succ_cons, List.take_zero, v_g0, v_gk, v_s0, v_sk, v_tk, cl_isx, cl_sub, List.append_assoc, List.length_append, evSs, evS, evE, evAs, evFs, evIs, evB, evO, evIf, cl_scr, Out.bind_ok, Out.bind_exc, Out.bind_bad, R.wipe, v_onP_p, v_onP_n, v_onP_o, v_onP_f, v_int, v_bl, v_str, v_data, v_seq, v_obj, v_ix, v_of, v_retT, v_retT_b, v_retT_s, v_retT_l, v_retB, v_retB_b, v_add, v_sub, v_mul, v_mod, v_fdiv, v_pow, v_addl, v_addt, v_adds, v_mull, v_mult, v_lt, v_le, v_gt, v_ge, v_eq, v_ne, v_eqs, v_nes, v_isN, v_isNN, v_ltt, v_binR, v_frz_p, v_frz_n, v_pop_p, v_pop_n, v_sto_p, v_sto_n, v_sto_t, v_sto_o, v_lst, v_tup, v_lenR, v_len_s, v_bi_p, v_bi_n, v_bi_o, v_len_l, v_len_t, v_sum_l, v_sum_t, v_all, v_any, v_min_t, v_max_t, v_min_l, v_max_l, v_list_l, v_list_t, v_tuple_l, v_tuple_t, v_idx_t, v_idx_l, v_idx_n, v_idx_o, v_idx_s, v_tg1, v_app, v_seti, v_thn_n, v_thn_r, v_okB, v_noexc, v_arg_p, v_arg_n, v_arg_o, v_arg_s]
    try rfl
  | true =>
    rw [c1] at A
    obtain ⟨c, r, hw0⟩ : ∃ c r, w = c :: r := by
      cases w with
      | nil => exact absurd c0.1 (by simp)
      | cons c r => exact ⟨c, r, rfl⟩
    have hix : idxR ns (.p (pt w)) (.p (.int 0)) μ = .ok (.p (pt [c])) μ := by rw [hw0] at hw ⊢; exact v_idx0tx (by simp only [List.length_cons] at hw; show _ < 1000000; omega)
    have hh : w.headD 0 = c := by rw [hw0]; rfl
    by_cases c2 : c = 48
    · rw [if_neg fun h => h.2.2.1 (by rw [hh]; exact c2)]
      refine bad ?_
      rw [s0]
      have k3 : decide ([c] = [48]) = true := decide_eq_true (by rw [c2])
      simp only [s_number_in_0a_0, hlw, k1, k2, A, hix, l_0, k3, List.length_map, ups_len, downs_len, Int.cast_ofNat_Int, List.take_length, Nat.add_assoc, big, v_ix0, v_ix1, v_ix2, v_ix3, v_il0, v_il1, v_in0, v_in1, v_in2, v_tg2, v_sum_ti, v_sum_li, v_len_ti, v_eq_nil, v_ne_nil, v_eq_sd, v_ne_sd, tx_inj, v_in_li, v_eq_li, v_ne_li, v_eq_bd, v_ne_bd, eq_self, and_self, or_self, Int.reduceAdd, Int.reduceSub, Int.reduceMul, Int.reduceNeg, Int.reduceLT, Int.reduceLE, Int.reduceEq, Int.reduceNe, Nat.reduceLeDiff, Nat.reduceLT, decide_true, decide_false, Bool.not_not, ite_true, ite_false, Bool.true_eq_false, Bool.false_eq_true, Bool.and_true, Bool.true_and, Bool.and_false, Bool.false_and, Bool.or_true, Bool.true_or, Bool.or_false, Bool.false_or, Bool.false_eq_true, if_false, if_true, reduceIte, List.getElem?_cons_zero, List.getElem?_cons_succ, List.set_cons_zero, List.set_cons_succ, List.map_cons, List.map_nil, List.length_cons, List.length_nil, List.cons_append, List.nil_append, List.replicate_succ, List.replicate_zero, Nat.reduceAdd, Nat.reduceSub, Bool.not_true, Bool.not_false, decide_true, decide_false, Option.map_some, List.take_succ_cons, List.take_zero, v_g0, v_gk, v_s0, v_sk, v_tk, cl_isx, cl_sub, List.append_assoc, List.length_append, evSs, evS, evE, evAs, evFs, evIs, evB, evO, evIf, cl_scr, Out.bind_ok, Out.bind_exc, Out.bind_bad, R.wipe, v_onP_p, v_onP_n, v_onP_o, v_onP_f, v_int, v_bl, v_str, v_data, v_seq, v_obj, v_ix, v_of, v_retT, v_retT_b, v_retT_s, v_retT_l, v_retB, v_retB_b, v_add, v_sub, v_mul, v_mod, v_fdiv, v_pow, v_addl, v_addt, v_adds, v_mull, v_mult, v_lt, v_le, v_gt, v_ge, v_eq, v_ne, v_eqs, v_nes, v_isN, v_isNN, v_ltt, v_binR, v_frz_p, v_frz_n, v_pop_p, v_pop_n, v_sto_p, v_sto_n, v_sto_t, v_sto_o, v_lst, v_tup, v_lenR, v_len_s, v_bi_p, v_bi_n, v_bi_o, v_len_l, v_len_t, v_sum_l, v_sum_t, v_all, v_any, v_min_t, v_max_t, v_min_l, v_max_l, v_list_l, v_list_t, v_tuple_l, v_tuple_t, v_idx_t, v_idx_l, v_idx_n, v_idx_o, v_idx_s, v_tg1, v_app, v_seti, v_thn_n, v_thn_r, v_okB, v_noexc, v_arg_p, v_arg_n, v_arg_o, v_arg_s]
      try rfl
    · have k3 : decide ([c] = [48]) = false := decide_eq_false (by simpa using c2)
      have S0 : evS (C ns d) s_number_in_0 [some (.p (pt w)), some (.p (.int most)), none] μ = .ok (.nx [some (.p (pt w)), some (.p (.int most)), none]) μ := by
        rw [s0]
        simp only [hlw, k1, k2, A, hix, l_0, k3, List.length_map, ups_len, downs_len, Int.cast_ofNat_Int, List.take_length, Nat.add_assoc, big, v_ix0, v_ix1, v_ix2, v_ix3, v_il0, v_il1, v_in0, v_in1, v_in2, v_tg2, v_sum_ti, v_sum_li, v_len_ti, v_eq_nil, v_ne_nil, v_eq_sd, v_ne_sd, tx_inj, v_in_li, v_eq_li, v_ne_li, v_eq_bd, v_ne_bd, eq_self, and_self, or_self, Int.reduceAdd, Int.reduceSub, Int.reduceMul, Int.reduceNeg, Int.reduceLT, Int.reduceLE, Int.reduceEq, Int.reduceNe, Nat.reduceLeDiff, Nat.reduceLT, decide_true, decide_false, Bool.not_not, ite_true, ite_false, Bool.true_eq_false, Bool.false_eq_true, Bool.and_true, Bool.true_and, Bool.and_false, Bool.false_and, Bool.or_true, Bool.true_or, Bool.or_false, Bool.false_or, Bool.false_eq_true, if_false, if_true, reduceIte, List.getElem?_cons_zero, List.getElem?_cons_succ, List.set_cons_zero, List.set_cons_succ, List.map_cons, List.map_nil, List.length_cons, List.length_nil, List.cons_append, List.nil_append, List.replicate_succ, List.replicate_zero, Nat.reduceAdd, Nat.reduceSub, Bool.not_true, Bool.not_false, decide_true, decide_false, Option.map_some, List.take_succ_cons, List.take_zero, v_g0, v_gk, v_s0, v_sk, v_tk, cl_isx, cl_sub, List.append_assoc, List.length_append, evSs, evS, evE, evAs, evFs, evIs, evB, evO, evIf, cl_scr, Out.bind_ok, Out.bind_exc, Out.bind_bad, R.wipe, v_onP_p, v_onP_n, v_onP_o, v_onP_f, v_int, v_bl, v_str, v_data, v_seq, v_obj, v_ix, v_of, v_retT, v_retT_b, v_retT_s, v_retT_l, v_retB, v_retB_b, v_add, v_sub, v_mul, v_mod, v_fdiv, v_pow, v_addl, v_addt, v_adds, v_mull, v_mult, v_lt, v_le, v_gt, v_ge, v_eq, v_ne, v_eqs, v_nes, v_isN, v_isNN, v_ltt, v_binR, v_frz_p, v_frz_n, v_pop_p, v_pop_n, v_sto_p, v_sto_n, v_sto_t, v_sto_o, v_lst, v_tup, v_lenR, v_len_s, v_bi_p, v_bi_n, v_bi_o, v_len_l, v_len_t, v_sum_l, v_sum_t, v_all, v_any, v_min_t, v_max_t, v_min_l, v_max_l, v_list_l, v_list_t, v_tuple_l, v_tuple_t, v_idx_t, v_idx_l, v_idx_n, v_idx_o, v_idx_s, v_tg1, v_app, v_seti, v_thn_n, v_thn_r, v_okB, v_noexc, v_arg_p, v_arg_n, v_arg_o, v_arg_s]
      have hint := v_inttx (a := w) c1 (by rw [hw0]; simp) (by omega)
      by_cases c3 : ((NumText.digitsVal w : Nat) : Int) ≤ most
      · have k4 : decide (most < ((NumText.digitsVal w : Nat) : Int)) = false := decide_eq_false (by omega)
        have S1 : evS (C ns d) s_number_in_1 [some (.p (pt w)), some (.p (.int most)), none] μ = .ok (.nx [some (.p (pt w)), some (.p (.int most)), none]) μ := by
          simp only [s_number_in_1, hint, k4, List.length_map, ups_len, downs_len, Int.cast_ofNat_Int, List.take_length, Nat.add_assoc, big, v_ix0, v_ix1, v_ix2, v_ix3, v_il0, v_il1, v_in0, v_in1, v_in2, v_tg2, v_sum_ti, v_sum_li, v_len_ti, v_eq_nil, v_ne_nil, v_eq_sd, v_ne_sd, tx_inj, v_in_li, v_eq_li, v_ne_li, v_eq_bd, v_ne_bd, eq_self, and_self, or_self, Int.reduceAdd, Int.reduceSub, Int.reduceMul, Int.reduceNeg, Int.reduceLT, Int.reduceLE, Int.reduceEq, Int.reduceNe, Nat.reduceLeDiff, Nat.reduceLT, decide_true, decide_false, Bool.not_not, ite_true, ite_false, Bool.true_eq_false, Bool.false_eq_true, Bool.and_true, Bool.true_and, Bool.and_false, Bool.false_and, Bool.or_true, Bool.true_or, Bool.or_false, Bool.false_or, Bool.false_eq_true, if_false, if_true, reduceIte, List.getElem?_cons_zero, List.getElem?_cons_succ, List.set_cons_zero, List.set_cons_succ, List.map_cons, List.map_nil, List.length_cons, List.length_nil, List.cons_append, List.nil_append, List.replicate_succ, List.replicate_zero, Nat.reduceAdd, Nat.reduceSub, Bool.not_true, Bool.not_false, decide_true, decide_false, Option.map_some, List.take_succ_cons, List.take_zero, v_g0, v_gk, v_s0, v_sk, v_tk, cl_isx, cl_sub, List.append_assoc, List.length_append, evSs, evS, evE, evAs, evFs, evIs, evB, evO, evIf, cl_scr, Out.bind_ok, Out.bind_exc, Out.bind_bad, R.wipe, v_onP_p, v_onP_n, v_onP_o, v_onP_f, v_int, v_bl, v_str, v_data, v_seq, v_obj, v_ix, v_of, v_retT, v_retT_b, v_retT_s, v_retT_l, v_retB, v_retB_b, v_add, v_sub, v_mul, v_mod, v_fdiv, v_pow, v_addl, v_addt, v_adds, v_mull, v_mult, v_lt, v_le, v_gt, v_ge, v_eq, v_ne, v_eqs, v_nes, v_isN, v_isNN, v_ltt, v_binR, v_frz_p, v_frz_n, v_pop_p, v_pop_n, v_sto_p, v_sto_n, v_sto_t, v_sto_o, v_lst, v_tup, v_lenR, v_len_s, v_bi_p, v_bi_n, v_bi_o, v_len_l, v_len_t, v_sum_l, v_sum_t, v_all, v_any, v_min_t, v_max_t, v_min_l, v_max_l, v_list_l, v_list_t, v_tuple_l, v_tuple_t, v_idx_t, v_idx_l, v_idx_n, v_idx_o, v_idx_s, v_tg1, v_app, v_seti, v_thn_n, v_thn_r, v_okB, v_noexc, v_arg_p, v_arg_n, v_arg_o, v_arg_s]
        have S2 : evS (C ns d) s_number_in_2 [some (.p (pt w)), some (.p (.int most)), none] μ = .ok (.rt (.p (.int ((NumText.digitsVal w : Nat) : Int)))) μ := by
          simp only [s_number_in_2, hint, List.length_map, ups_len, downs_len, Int.cast_ofNat_Int, List.take_length, Nat.add_assoc, big, v_ix0, v_ix1, v_ix2, v_ix3, v_il0, v_il1, v_in0, v_in1, v_in2, v_tg2, v_sum_ti, v_sum_li, v_len_ti, v_eq_nil, v_ne_nil, v_eq_sd, v_ne_sd, tx_inj, v_in_li, v_eq_li, v_ne_li, v_eq_bd, v_ne_bd, eq_self, and_self, or_self, Int.reduceAdd, Int.reduceSub, Int.reduceMul, Int.reduceNeg, Int.reduceLT, Int.reduceLE, Int.reduceEq, Int.reduceNe, Nat.reduceLeDiff, Nat.reduceLT, decide_true, decide_false, Bool.not_not, ite_true, ite_false, Bool.true_eq_false, Bool.false_eq_true, Bool.and_true, Bool.true_and, Bool.and_false, Bool.false_and, Bool.or_true, Bool.true_or, Bool.or_false, Bool.false_or, Bool.false_eq_true, if_false, if_true, reduceIte, List.getElem?_cons_zero, List.getElem?_cons_succ, List.set_cons_zero, List.set_cons_succ, List.map_cons, List.map_nil, List.length_cons, List.length_nil, List.cons_append, List.nil_append, List.replicate_succ, List.replicate_zero, Nat.reduceAdd, Nat.reduceSub, Bool.not_true, Bool.not_false, decide_true, decide_false, Option.map_some, List.take_succ_cons, List.take_zero, v_g0, v_gk, v_s0, v_sk, v_tk, cl_isx, cl_sub, List.append_assoc, List.length_append, evSs, evS, evE, evAs, evFs, evIs, evB, evO, evIf, cl_scr, Out.bind_ok, Out.bind_exc, Out.bind_bad, R.wipe, v_onP_p, v_onP_n, v_onP_o, v_onP_f, v_int, v_bl, v_str, v_data, v_seq, v_obj, v_ix, v_of, v_retT, v_retT_b, v_retT_s, v_retT_l, v_retB, v_retB_b, v_add, v_sub, v_mul, v_mod, v_fdiv, v_pow, v_addl, v_addt, v_adds, v_mull, v_mult, v_lt, v_le, v_gt, v_ge, v_eq, v_ne, v_eqs, v_nes, v_isN, v_isNN, v_ltt, v_binR, v_frz_p, v_frz_n, v_pop_p, v_pop_n, v_sto_p, v_sto_n, v_sto_t, v_sto_o, v_lst, v_tup, v_lenR, v_len_s, v_bi_p, v_bi_n, v_bi_o, v_len_l, v_len_t, v_sum_l, v_sum_t, v_all, v_any, v_min_t, v_max_t, v_min_l, v_max_l, v_list_l, v_list_t, v_tuple_l, v_tuple_t, v_idx_t, v_idx_l, v_idx_n, v_idx_o, v_idx_s, v_tg1, v_app, v_seti, v_thn_n, v_thn_r, v_okB, v_noexc, v_arg_p, v_arg_n, v_arg_o, v_arg_s]
        rw [if_pos ⟨c0, rfl, by rw [hh]; exact c2, c3⟩, fn_ret (f := f_number_in) (ρ := [some (.p (pt w)), some (.p (.int most)), none]) rfl rfl ((ss_next S0).trans ((ss_next S1).trans (ss_last S2))), v_pop_p, List.take_length]
        rfl
      · have k4 : decide (most < ((NumText.digitsVal w : Nat) : Int)) = true := decide_eq_true (by omega)
        have S1 : evS (C ns d) s_number_in_1 [some (.p (pt w)), some (.p (.int most)), none] μ = .exc "BadText" μ := by
          simp only [s_number_in_1, s_number_in_1a_0, hint, k4, List.length_map, ups_len, downs_len, Int.cast_ofNat_Int, List.take_length, Nat.add_assoc, big, v_ix0, v_ix1, v_ix2, v_ix3, v_il0, v_il1, v_in0, v_in1, v_in2, v_tg2, v_sum_ti, v_sum_li, v_len_ti, v_eq_nil, v_ne_nil, v_eq_sd, v_ne_sd, tx_inj, v_in_li, v_eq_li, v_ne_li, v_eq_bd, v_ne_bd, eq_self, and_self, or_self, Int.reduceAdd, Int.reduceSub, Int.reduceMul, Int.reduceNeg, Int.reduceLT, Int.reduceLE, Int.reduceEq, Int.reduceNe, Nat.reduceLeDiff, Nat.reduceLT, decide_true, decide_false, Bool.not_not, ite_true, ite_false, Bool.true_eq_false, Bool.false_eq_true, Bool.and_true, Bool.true_and, Bool.and_false, Bool.false_and, Bool.or_true, Bool.true_or, Bool.or_false, Bool.false_or, Bool.false_eq_true, if_false, if_true, reduceIte, List.getElem?_cons_zero, List.getElem?_cons_succ, List.set_cons_zero, List.set_cons_succ, List.map_cons, List.map_nil, List.length_cons, List.length_nil, List.cons_append, List.nil_append, List.replicate_succ, List.replicate_zero, Nat.reduceAdd, Nat.reduceSub, Bool.not_true, Bool.not_false, decide_true, decide_false, Option.map_some, List.take_succ_cons, List.take_zero, v_g0, v_gk, v_s0, v_sk, v_tk, cl_isx, cl_sub, List.append_assoc, List.length_append, evSs, evS, evE, evAs, evFs, evIs, evB, evO, evIf, cl_scr, Out.bind_ok, Out.bind_exc, Out.bind_bad, R.wipe, v_onP_p, v_onP_n, v_onP_o, v_onP_f, v_int, v_bl, v_str, v_data, v_seq, v_obj, v_ix, v_of, v_retT, v_retT_b, v_retT_s, v_retT_l, v_retB, v_retB_b, v_add, v_sub, v_mul, v_mod, v_fdiv, v_pow, v_addl, v_addt, v_adds, v_mull, v_mult, v_lt, v_le, v_gt, v_ge, v_eq, v_ne, v_eqs, v_nes, v_isN, v_isNN, v_ltt, v_binR, v_frz_p, v_frz_n, v_pop_p, v_pop_n, v_sto_p, v_sto_n, v_sto_t, v_sto_o, v_lst, v_tup, v_lenR, v_len_s, v_bi_p, v_bi_n, v_bi_o, v_len_l, v_len_t, v_sum_l, v_sum_t, v_all, v_any, v_min_t, v_max_t, v_min_l, v_max_l, v_list_l, v_list_t, v_tuple_l, v_tuple_t, v_idx_t, v_idx_l, v_idx_n, v_idx_o, v_idx_s, v_tg1, v_app, v_seti, v_thn_n, v_thn_r, v_okB, v_noexc, v_arg_p, v_arg_n, v_arg_o, v_arg_s]
          try rfl
        rw [if_neg fun h => c3 h.2.2.2, fn_exc (f := f_number_in) (ρ := [some (.p (pt w)), some (.p (.int most)), none]) rfl rfl ((ss_next S0).trans (ss_exc S1)), List.take_length]
        rfl

end R
namespace R
open PySem
def placeIn (w : List Nat) : Option Int := if w = [98, 97, 114] then some 25 else if w = [111, 102, 102] then some 0 else numIn w 24
theorem fn_read_place (ns : List Int) (d : Nat) (w : List Nat) (hw : w.length ≤ 1000) (μ : Mu) : (C ns (d + 2)).fn 6 [.p (pt w)] μ = orText (placeIn w) μ := by
  rw [cl_fn (f := f_read_place) rfl]
  have hn := fn_number_in ns d w hw 24 μ
  unfold placeIn
  by_cases c1 : w = [98, 97, 114]
  · have k0 : decide (w = [98, 97, 114] ∨ w = [111, 102, 102]) = true := decide_eq_true (.inl c1)
    have k1 : decide (w = [98, 97, 114]) = true := decide_eq_true c1
    rw [if_pos c1]
    simp only [f_read_place, s_read_place_0a_0, s_read_place_0, s_read_place_1, evFn, l_bar, l_off, v_in2tx, k0, k1, orText, List.length_map, ups_len, downs_len, Int.cast_ofNat_Int, List.take_length, Nat.add_assoc, big, v_ix0, v_ix1, v_ix2, v_ix3, v_il0, v_il1, v_in0, v_in1, v_in2, v_tg2, v_sum_ti, v_sum_li, v_len_ti, v_eq_nil, v_ne_nil, v_eq_sd, v_ne_sd, tx_inj, v_in_li, v_eq_li, v_ne_li, v_eq_bd, v_ne_bd, eq_self, and_self, or_self, Int.reduceAdd, Int.reduceSub, Int.reduceMul, Int.reduceNeg, Int.reduceLT, Int.reduceLE, Int.reduceEq, Int.reduceNe, Nat.reduceLeDiff, Nat.reduceLT, decide_true, decide_false, Bool.not_not, ite_true, ite_false, Bool.true_eq_false, Bool.false_eq_true, Bool.and_true, Bool.true_and, Bool.and_false, Bool.false_and, Bool.or_true, Bool.true_or, Bool.or_false, Bool.false_or, Bool.false_eq_true, if_false, if_true, reduceIte, List.getElem?_cons_zero, List.getElem?_cons_succ, List.set_cons_zero, List.set_cons_succ, List.map_cons, List.map_nil, List.length_cons, List.length_nil, List.cons_append, List.nil_append, List.replicate_succ, List.replicate_zero, Nat.reduceAdd, Nat.reduceSub, Bool.not_true, Bool.not_false, decide_true, decide_false, Option.map_some, List.take_succ_cons, List.take_zero, v_g0, v_gk, v_s0, v_sk, v_tk, cl_isx, cl_sub, List.append_assoc, List.length_append, evSs, evS, evE, evAs, evFs, evIs, evB, evO, evIf, cl_scr, Out.bind_ok, Out.bind_exc, Out.bind_bad, R.wipe, v_onP_p, v_onP_n, v_onP_o, v_onP_f, v_int, v_bl, v_str, v_data, v_seq, v_obj, v_ix, v_of, v_retT, v_retT_b, v_retT_s, v_retT_l, v_retB, v_retB_b, v_add, v_sub, v_mul, v_mod, v_fdiv, v_pow, v_addl, v_addt, v_adds, v_mull, v_mult, v_lt, v_le, v_gt, v_ge, v_eq, v_ne, v_eqs, v_nes, v_isN, v_isNN, v_ltt, v_binR, v_frz_p, v_frz_n, v_pop_p, v_pop_n, v_sto_p, v_sto_n, v_sto_t, v_sto_o, v_lst, v_tup, v_lenR, v_len_s, v_bi_p, v_bi_n, v_bi_o, v_len_l, v_len_t, v_sum_l, v_sum_t, v_all, v_any, v_min_t, v_max_t, v_min_l, v_max_l, v_list_l, v_list_t, v_tuple_l, v_tuple_t, v_idx_t, v_idx_l, v_idx_n, v_idx_o, v_idx_s, v_tg1, v_app, v_seti, v_thn_n, v_thn_r, v_okB, v_noexc, v_arg_p, v_arg_n, v_arg_o, v_arg_s]
  · have k1 : decide (w = [98, 97, 114]) = false := decide_eq_false c1
    rw [if_neg c1]
    by_cases c2 : w = [111, 102, 102]
    · have k0 : decide (w = [98, 97, 114] ∨ w = [111, 102, 102]) = true := decide_eq_true (.inr c2)
      rw [if_pos c2]
      simp only [f_read_place, s_read_place_0a_0, s_read_place_0, s_read_place_1, evFn, l_bar, l_off, v_in2tx, k0, k1, orText, List.length_map, ups_len, downs_len, Int.cast_ofNat_Int, List.take_length, Nat.add_assoc, big, v_ix0, v_ix1, v_ix2, v_ix3, v_il0, v_il1, v_in0, v_in1, v_in2, v_tg2, v_sum_ti, v_sum_li, v_len_ti, v_eq_nil, v_ne_nil, v_eq_sd, v_ne_sd, tx_inj, v_in_li, v_eq_li, v_ne_li, v_eq_bd, v_ne_bd, eq_self, and_self, or_self, Int.reduceAdd, Int.reduceSub, Int.reduceMul, Int.reduceNeg, Int.reduceLT, Int.reduceLE, Int.reduceEq, Int.reduceNe, Nat.reduceLeDiff, Nat.reduceLT, decide_true, decide_false, Bool.not_not, ite_true, ite_false, Bool.true_eq_false, Bool.false_eq_true, Bool.and_true, Bool.true_and, Bool.and_false, Bool.false_and, Bool.or_true, Bool.true_or, Bool.or_false, Bool.false_or, Bool.false_eq_true, if_false, if_true, reduceIte, List.getElem?_cons_zero, List.getElem?_cons_succ, List.set_cons_zero, List.set_cons_succ, List.map_cons, List.map_nil, List.length_cons, List.length_nil, List.cons_append, List.nil_append, List.replicate_succ, List.replicate_zero, Nat.reduceAdd, Nat.reduceSub, Bool.not_true, Bool.not_false, decide_true, decide_false, Option.map_some, List.take_succ_cons, List.take_zero, v_g0, v_gk, v_s0, v_sk, v_tk, cl_isx, cl_sub, List.append_assoc, List.length_append, evSs, evS, evE, evAs, evFs, evIs, evB, evO, evIf, cl_scr, Out.bind_ok, Out.bind_exc, Out.bind_bad, R.wipe, v_onP_p, v_onP_n, v_onP_o, v_onP_f, v_int, v_bl, v_str, v_data, v_seq, v_obj, v_ix, v_of, v_retT, v_retT_b, v_retT_s, v_retT_l, v_retB, v_retB_b, v_add, v_sub, v_mul, v_mod, v_fdiv, v_pow, v_addl, v_addt, v_adds, v_mull, v_mult, v_lt, v_le, v_gt, v_ge, v_eq, v_ne, v_eqs, v_nes, v_isN, v_isNN, v_ltt, v_binR, v_frz_p, v_frz_n, v_pop_p, v_pop_n, v_sto_p, v_sto_n, v_sto_t, v_sto_o, v_lst, v_tup, v_lenR, v_len_s, v_bi_p, v_bi_n, v_bi_o, v_len_l, v_len_t, v_sum_l, v_sum_t, v_all, v_any, v_min_t, v_max_t, v_min_l, v_max_l, v_list_l, v_list_t, v_tuple_l, v_tuple_t, v_idx_t, v_idx_l, v_idx_n, v_idx_o, v_idx_s, v_tg1, v_app, v_seti, v_thn_n, v_thn_r, v_okB, v_noexc, v_arg_p, v_arg_n, v_arg_o, v_arg_s]
    · have k0 : decide (w = [98, 97, 114] ∨ w = [111, 102, 102]) = false := decide_eq_false fun h => h.elim c1 c2
      rw [if_neg c2]
      cases hi : numIn w 24 with
      | some v =>
        rw [hi] at hn
        simp only [orText] at hn ⊢
        simp only [f_read_place, s_read_place_0a_0, s_read_place_0, s_read_place_1, evFn, l_bar, l_off, v_in2tx, k0, hn, List.length_map, ups_len, downs_len, Int.cast_ofNat_Int, List.take_length, Nat.add_assoc, big, v_ix0, v_ix1, v_ix2, v_ix3, v_il0, v_il1, v_in0, v_in1, v_in2, v_tg2, v_sum_ti, v_sum_li, v_len_ti, v_eq_nil, v_ne_nil, v_eq_sd, v_ne_sd, tx_inj, v_in_li, v_eq_li, v_ne_li, v_eq_bd, v_ne_bd, eq_self, and_self, or_self, Int.reduceAdd, Int.reduceSub, Int.reduceMul, Int.reduceNeg, Int.reduceLT, Int.reduceLE, Int.reduceEq, Int.reduceNe, Nat.reduceLeDiff, Nat.reduceLT, decide_true, decide_false, Bool.not_not, ite_true, ite_false, Bool.true_eq_false, Bool.false_eq_true, Bool.and_true, Bool.true_and, Bool.and_false, Bool.false_and, Bool.or_true, Bool.true_or, Bool.or_false, Bool.false_or, Bool.false_eq_true, if_false, if_true, reduceIte, List.getElem?_cons_zero, List.getElem?_cons_succ, List.set_cons_zero, List.set_cons_succ, List.map_cons, List.map_nil, List.length_cons, List.length_nil, List.cons_append, List.nil_append, List.replicate_succ, List.replicate_zero, Nat.reduceAdd, Nat.reduceSub, Bool.not_true, Bool.not_false, decide_true, decide_false, Option.map_some, List.take_succ_cons, List.take_zero, v_g0, v_gk, v_s0, v_sk, v_tk, cl_isx, cl_sub, List.append_assoc, List.length_append, evSs, evS, evE, evAs, evFs, evIs, evB, evO, evIf, cl_scr, Out.bind_ok, Out.bind_exc, Out.bind_bad, R.wipe, v_onP_p, v_onP_n, v_onP_o, v_onP_f, v_int, v_bl, v_str, v_data, v_seq, v_obj, v_ix, v_of, v_retT, v_retT_b, v_retT_s, v_retT_l, v_retB, v_retB_b, v_add, v_sub, v_mul, v_mod, v_fdiv, v_pow, v_addl, v_addt, v_adds, v_mull, v_mult, v_lt, v_le, v_gt, v_ge, v_eq, v_ne, v_eqs, v_nes, v_isN, v_isNN, v_ltt, v_binR, v_frz_p, v_frz_n, v_pop_p, v_pop_n, v_sto_p, v_sto_n, v_sto_t, v_sto_o, v_lst, v_tup, v_lenR, v_len_s, v_bi_p, v_bi_n, v_bi_o, v_len_l, v_len_t, v_sum_l, v_sum_t, v_all, v_any, v_min_t, v_max_t, v_min_l, v_max_l, v_list_l, v_list_t, v_tuple_l, v_tuple_t, v_idx_t, v_idx_l, v_idx_n, v_idx_o, v_idx_s, v_tg1, v_app, v_seti, v_thn_n, v_thn_r, v_okB, v_noexc, v_arg_p, v_arg_n, v_arg_o, v_arg_s]
      | none =>
        rw [hi] at hn
        simp only [orText] at hn ⊢
        simp only [f_read_place, s_read_place_0a_0, s_read_place_0, s_read_place_1, evFn, l_bar, l_off, v_in2tx, k0, hn, List.length_map, ups_len, downs_len, Int.cast_ofNat_Int, List.take_length, Nat.add_assoc, big, v_ix0, v_ix1, v_ix2, v_ix3, v_il0, v_il1, v_in0, v_in1, v_in2, v_tg2, v_sum_ti, v_sum_li, v_len_ti, v_eq_nil, v_ne_nil, v_eq_sd, v_ne_sd, tx_inj, v_in_li, v_eq_li, v_ne_li, v_eq_bd, v_ne_bd, eq_self, and_self, or_self, Int.reduceAdd, Int.reduceSub, Int.reduceMul, Int.reduceNeg, Int.reduceLT, Int.reduceLE, Int.reduceEq, Int.reduceNe, Nat.reduceLeDiff, Nat.reduceLT, decide_true, decide_false, Bool.not_not, ite_true, ite_false, Bool.true_eq_false, Bool.false_eq_true, Bool.and_true, Bool.true_and, Bool.and_false, Bool.false_and, Bool.or_true, Bool.true_or, Bool.or_false, Bool.false_or, Bool.false_eq_true, if_false, if_true, reduceIte, List.getElem?_cons_zero, List.getElem?_cons_succ, List.set_cons_zero, List.set_cons_succ, List.map_cons, List.map_nil, List.length_cons, List.length_nil, List.cons_append, List.nil_append, List.replicate_succ, List.replicate_zero, Nat.reduceAdd, Nat.reduceSub, Bool.not_true, Bool.not_false, decide_true, decide_false, Option.map_some, List.take_succ_cons, List.take_zero, v_g0, v_gk, v_s0, v_sk, v_tk, cl_isx, cl_sub, List.append_assoc, List.length_append, evSs, evS, evE, evAs, evFs, evIs, evB, evO, evIf, cl_scr, Out.bind_ok, Out.bind_exc, Out.bind_bad, R.wipe, v_onP_p, v_onP_n, v_onP_o, v_onP_f, v_int, v_bl, v_str, v_data, v_seq, v_obj, v_ix, v_of, v_retT, v_retT_b, v_retT_s, v_retT_l, v_retB, v_retB_b, v_add, v_sub, v_mul, v_mod, v_fdiv, v_pow, v_addl, v_addt, v_adds, v_mull, v_mult, v_lt, v_le, v_gt, v_ge, v_eq, v_ne, v_eqs, v_nes, v_isN, v_isNN, v_ltt, v_binR, v_frz_p, v_frz_n, v_pop_p, v_pop_n, v_sto_p, v_sto_n, v_sto_t, v_sto_o, v_lst, v_tup, v_lenR, v_len_s, v_bi_p, v_bi_n, v_bi_o, v_len_l, v_len_t, v_sum_l, v_sum_t, v_all, v_any, v_min_t, v_max_t, v_min_l, v_max_l, v_list_l, v_list_t, v_tuple_l, v_tuple_t, v_idx_t, v_idx_l, v_idx_n, v_idx_o, v_idx_s, v_tg1, v_app, v_seti, v_thn_n, v_thn_r, v_okB, v_noexc, v_arg_p, v_arg_n, v_arg_o, v_arg_s]
theorem dig_all {w : List Nat} (h : w.all isDig = true) : NumText.AllDigits w := fun c hc => by
  have := List.all_eq_true.mp h c hc
  unfold isDig at this
  simp only [Bool.and_eq_true, decide_eq_true_eq] at this
  exact this
/-- a number read is the number's text -/
theorem numIn_text {w : List Nat} {m v : Int} (h : numIn w m = some v) : w = TL.numL v.toNat ∧ 1 ≤ v ∧ v ≤ m ∧ v < 100 := by
  unfold numIn at h
  split at h
  · rename_i hc
    obtain ⟨⟨h1, h2⟩, h3, h4, h5⟩ := hc
    cases h
    match w, h1, h2, h3, h4, h5 with
    | [c], _, _, h3, h4, h5 =>
      have hd := dig_all h3 c (by simp)
      have e : NumText.digitsVal [c] = c - 48 := by show 0 * 10 + (c - 48) = _; omega
      have h4' : c ≠ 48 := h4
      rw [e] at h5 ⊢
      have hl := TL.numL_lt (n := c - 48) (by omega)
      rw [Int.toNat_natCast, hl]
      refine ⟨by congr 1; omega, by omega, by omega, by omega⟩
    | [c, d], _, _, h3, h4, h5 =>
      have hc := dig_all h3 c (by simp)
      have hd := dig_all h3 d (by simp)
      have e : NumText.digitsVal [c, d] = (c - 48) * 10 + (d - 48) := by show (0 * 10 + (c - 48)) * 10 + (d - 48) = _; omega
      have h4' : c ≠ 48 := h4
      rw [e] at h5 ⊢
      have hl := TL.numL_step (n := (c - 48) * 10 + (d - 48)) (by omega)
      have e1 : ((c - 48) * 10 + (d - 48)) / 10 = c - 48 := by omega
      have e2 : ((c - 48) * 10 + (d - 48)) % 10 = d - 48 := by omega
      rw [e1, e2, TL.numL_lt (n := c - 48) (by omega)] at hl
      rw [Int.toNat_natCast, hl]
      refine ⟨?_, by omega, by omega, by omega⟩
      have a1 : 48 + (c - 48) = c := by omega
      have a2 : 48 + (d - 48) = d := by omega
      rw [a1, a2]
      rfl
    | c :: d :: e :: r, _, h2, _, _, _ => simp only [List.length_cons] at h2; omega
  · exact absurd h (by simp)
theorem num_back : ∀ v < 100, 1 ≤ v → (TL.numL v).length ≤ 2 ∧ (TL.numL v).all isDig = true ∧ (TL.numL v).headD 0 ≠ 48 := by decide +kernel
theorem numIn_back {v : Nat} {m : Int} (h1 : 1 ≤ v) (h2 : v < 100) (h3 : (v : Int) ≤ m) : numIn (TL.numL v) m = some (v : Int) := by
  obtain ⟨a, b, c⟩ := num_back v h2 h1
  have := numL_2 h2
  unfold numIn
  rw [TL.numL_val, if_pos ⟨⟨this.1, a⟩, b, c, h3⟩]
theorem placeIn_back : ∀ n : Nat, n < 26 → placeIn (plC ((n : Nat) : Int)) = some ((n : Nat) : Int) := by decide +kernel
theorem placeIn_b {p : Int} (h : 0 ≤ p ∧ p ≤ 25) : placeIn (plC p) = some p := by
  have := placeIn_back p.toNat (by omega)
  rw [Int.toNat_of_nonneg h.1] at this
  exact this
theorem placeIn_text {w : List Nat} {p : Int} (h : placeIn w = some p) : w = plC p ∧ 0 ≤ p ∧ p ≤ 25 := by
  unfold placeIn at h
  split at h
  · rename_i e
    cases h
    exact ⟨e, by omega, by omega⟩
  · split at h
    · rename_i e
      cases h
      exact ⟨e, by omega, by omega⟩
    · obtain ⟨e, h1, h2, _⟩ := numIn_text h
      refine ⟨?_, by omega, by omega⟩
      unfold plC
      rw [if_neg (by omega), if_neg (by omega)]
      exact e
def sideStep (s : List Int × Int) (w : List Nat) : Option (List Int × Int) := match TL.spl [58] 0 [] w with
  | [p, m] => match placeIn p with
    | some q => if q < s.2 then (match numIn m 15 with
      | some k => some (si s.1 q k, q)
      | none => none) else none
    | none => none
  | _ => none
def readS (t : List Nat) : Option (List Int) := ((TL.spl [32] 0 [] t).foldlM sideStep (List.replicate 26 0, 26)).map (·.1)
abbrev sE (t : P) (k : Nat) (last : Int) (x3 x4 x5 : Option Rv) : Env := [some (.p t), some (.o k), some (.p (.int last)), x3, x4, x5]
theorem spl_short {c : Nat} {l : List Nat} {p : List Nat} (h : p ∈ TL.spl [c] 0 [] l) : p.length ≤ l.length := by
  have key : ∀ (n : Nat) (l acc : List Nat), l.length ≤ n → ∀ p ∈ TL.spl [c] 0 acc l, p.length ≤ acc.length + l.length := by
    intro n
    induction n with
    | zero =>
      intro l acc hl p hp
      cases l with
      | nil => rw [TL.spl_nil, List.mem_singleton] at hp; rw [hp]; simp
      | cons x l => simp at hl
    | succ n ih =>
      intro l acc hl p hp
      cases l with
      | nil => rw [TL.spl_nil, List.mem_singleton] at hp; rw [hp]; simp
      | cons x l =>
        simp only [List.length_cons] at hl ⊢
        by_cases e : x = c
        · have hpre : TL.pre [c] (x :: l) = true := by rw [e]; exact TL.pre_self [c] l
          rw [TL.spl_hit hpre] at hp
          rcases List.mem_cons.mp hp with rfl | hp
          · omega
          · have := ih l [] (by omega) p hp
            simp only [List.length_nil] at this
            omega
        · rw [TL.spl_miss (TL.pre_of_head _ _ e)] at hp
          have := ih l (acc ++ [x]) (by omega) p hp
          simp only [List.length_append, List.length_cons, List.length_nil] at this
          omega
  have := key l.length l [] (Nat.le_refl _) p h
  simpa using this
theorem read_word (ns : List Int) (d : Nat) (t : P) (μ : Mu) (w : List Nat) (hw : w.length ≤ 900) (x : List Int) (lx : x.length = 26) (last : Int) (x4 x5 : Option Rv) :
    (∀ s', sideStep (x, last) w = some s' → ∃ x4' x5', evSs (C ns (d + 2)) [s_read_side_2_0, s_read_side_2_1, s_read_side_2_2, s_read_side_2_3, s_read_side_2_4, s_read_side_2_5] (sE t μ.length last (some (.p (pt w))) x4 x5) (μ ++ [.lst (x.map .int)]) = .ok (.nx (sE t μ.length s'.2 (some (.p (pt w))) x4' x5')) (μ ++ [.lst (s'.1.map .int)]) ∧ s'.1.length = 26) ∧
    (sideStep (x, last) w = none → evSs (C ns (d + 2)) [s_read_side_2_0, s_read_side_2_1, s_read_side_2_2, s_read_side_2_3, s_read_side_2_4, s_read_side_2_5] (sE t μ.length last (some (.p (pt w))) x4 x5) (μ ++ [.lst (x.map .int)]) = .exc "BadText" (μ ++ [.lst (x.map .int)])) := by
  have hs := v_split (a := w) (b := [58]) (by simp) (by decide) (by show _ ≤ 1000000; omega)
  have hsl := spl_len (S := [58]) w.length w [] (Nat.le_refl _)
  have hss : ∀ p ∈ TL.spl [58] 0 [] w, p.length ≤ 900 := fun p hp => Nat.le_trans (spl_short hp) hw
  unfold sideStep
  generalize TL.spl [58] 0 [] w = parts at *
  have hm : meR .split (tx w) (.p (pt [58])) (μ ++ [.lst (x.map .int)]) = .ok (.n (parts.map pt)) (μ ++ [.lst (x.map .int)]) := by simp only [meR, v_onP_p, hs, v_of]
  have S0 : evS (C ns (d + 2)) s_read_side_2_0 (sE t μ.length last (some (.p (pt w))) x4 x5) (μ ++ [.lst (x.map .int)]) = .ok (.nx (sE t μ.length last (some (.p (pt w))) (some (.p (.lst (parts.map pt)))) x5)) (μ ++ [.lst (x.map .int)]) := by
    generalize parts.map pt = Q at *
    simp only [s_read_side_2_0, l_col, hm, List.length_map, ups_len, downs_len, Int.cast_ofNat_Int, List.take_length, Nat.add_assoc, big, v_ix0, v_ix1, v_ix2, v_ix3, v_il0, v_il1, v_in0, v_in1, v_in2, v_tg2, v_sum_ti, v_sum_li, v_len_ti, v_eq_nil, v_ne_nil, v_eq_sd, v_ne_sd, tx_inj, v_in_li, v_eq_li, v_ne_li, v_eq_bd, v_ne_bd, eq_self, and_self, or_self, Int.reduceAdd, Int.reduceSub, Int.reduceMul, Int.reduceNeg, Int.reduceLT, Int.reduceLE, Int.reduceEq, Int.reduceNe, Nat.reduceLeDiff, Nat.reduceLT, decide_true, decide_false, Bool.not_not, ite_true, ite_false, Bool.true_eq_false, Bool.false_eq_true, Bool.and_true, Bool.true_and, Bool.and_false, Bool.false_and, Bool.or_true, Bool.true_or, Bool.or_false, Bool.false_or, Bool.false_eq_true, if_false, if_true, reduceIte, List.getElem?_cons_zero, List.getElem?_cons_succ, List.set_cons_zero, List.set_cons_succ, List.map_cons, List.map_nil, List.length_cons, List.length_nil, List.cons_append, List.nil_append, List.replicate_succ, List.replicate_zero, Nat.reduceAdd, Nat.reduceSub, Bool.not_true, Bool.not_false, decide_true, decide_false, Option.map_some, List.take_succ_cons, List.take_zero, v_g0, v_gk, v_s0, v_sk, v_tk, cl_isx, cl_sub, List.append_assoc, List.length_append, evSs, evS, evE, evAs, evFs, evIs, evB, evO, evIf, cl_scr, Out.bind_ok, Out.bind_exc, Out.bind_bad, R.wipe, v_onP_p, v_onP_n, v_onP_o, v_onP_f, v_int, v_bl, v_str, v_data, v_seq, v_obj, v_ix, v_of, v_retT, v_retT_b, v_retT_s, v_retT_l, v_retB, v_retB_b, v_add, v_sub, v_mul, v_mod, v_fdiv, v_pow, v_addl, v_addt, v_adds, v_mull, v_mult, v_lt, v_le, v_gt, v_ge, v_eq, v_ne, v_eqs, v_nes, v_isN, v_isNN, v_ltt, v_binR, v_frz_p, v_frz_n, v_pop_p, v_pop_n, v_sto_p, v_sto_n, v_sto_t, v_sto_o, v_lst, v_tup, v_lenR, v_len_s, v_bi_p, v_bi_n, v_bi_o, v_len_l, v_len_t, v_sum_l, v_sum_t, v_all, v_any, v_min_t, v_max_t, v_min_l, v_max_l, v_list_l, v_list_t, v_tuple_l, v_tuple_t, v_idx_t, v_idx_l, v_idx_n, v_idx_o, v_idx_s, v_tg1, v_app, v_seti, v_thn_n, v_thn_r, v_okB, v_noexc, v_arg_p, v_arg_n, v_arg_o, v_arg_s]
  by_cases h2 : parts.length = 2
  case neg =>
    have k : decide ((parts.length : Int) = 2) = false := decide_eq_false (by omega)
    have S1 : evS (C ns (d + 2)) s_read_side_2_1 (sE t μ.length last (some (.p (pt w))) (some (.p (.lst (parts.map pt)))) x5) (μ ++ [.lst (x.map .int)]) = .exc "BadText" (μ ++ [.lst (x.map .int)]) := by
      simp only [s_read_side_2_1, s_read_side_2_1a_0, k, List.length_map, ups_len, downs_len, Int.cast_ofNat_Int, List.take_length, Nat.add_assoc, big, v_ix0, v_ix1, v_ix2, v_ix3, v_il0, v_il1, v_in0, v_in1, v_in2, v_tg2, v_sum_ti, v_sum_li, v_len_ti, v_eq_nil, v_ne_nil, v_eq_sd, v_ne_sd, tx_inj, v_in_li, v_eq_li, v_ne_li, v_eq_bd, v_ne_bd, eq_self, and_self, or_self, Int.reduceAdd, Int.reduceSub, Int.reduceMul, Int.reduceNeg, Int.reduceLT, Int.reduceLE, Int.reduceEq, Int.reduceNe, Nat.reduceLeDiff, Nat.reduceLT, decide_true, decide_false, Bool.not_not, ite_true, ite_false, Bool.true_eq_false, Bool.false_eq_true, Bool.and_true, Bool.true_and, Bool.and_false, Bool.false_and, Bool.or_true, Bool.true_or, Bool.or_false, Bool.false_or, Bool.false_eq_true, if_false, if_true, reduceIte, List.getElem?_cons_zero, List.getElem?_cons_succ, List.set_cons_zero, List.set_cons_succ, List.map_cons, List.map_nil, List.length_cons, List.length_nil, List.cons_append, List.nil_append, List.replicate_succ, List.replicate_zero, Nat.reduceAdd, Nat.reduceSub, Bool.not_true, Bool.not_false, decide_true, decide_false, Option.map_some, List.take_succ_cons, List.take_zero, v_g0, v_gk, v_s0, v_sk, v_tk, cl_isx, cl_sub, List.append_assoc, List.length_append, evSs, evS, evE, evAs, evFs, evIs, evB, evO, evIf, cl_scr, Out.bind_ok, Out.bind_exc, Out.bind_bad, R.wipe, v_onP_p, v_onP_n, v_onP_o, v_onP_f, v_int, v_bl, v_str, v_data, v_seq, v_obj, v_ix, v_of, v_retT, v_retT_b, v_retT_s, v_retT_l, v_retB, v_retB_b, v_add, v_sub, v_mul, v_mod, v_fdiv, v_pow, v_addl, v_addt, v_adds, v_mull, v_mult, v_lt, v_le, v_gt, v_ge, v_eq, v_ne, v_eqs, v_nes, v_isN, v_isNN, v_ltt, v_binR, v_frz_p, v_frz_n, v_pop_p, v_pop_n, v_sto_p, v_sto_n, v_sto_t, v_sto_o, v_lst, v_tup, v_lenR, v_len_s, v_bi_p, v_bi_n, v_bi_o, v_len_l, v_len_t, v_sum_l, v_sum_t, v_all, v_any, v_min_t, v_max_t, v_min_l, v_max_l, v_list_l, v_list_t, v_tuple_l, v_tuple_t, v_idx_t, v_idx_l, v_idx_n, v_idx_o, v_idx_s, v_tg1, v_app, v_seti, v_thn_n, v_thn_r, v_okB, v_noexc, v_arg_p, v_arg_n, v_arg_o, v_arg_s]
      try rfl
    refine ⟨fun s' e => ?_, fun _ => (ss_next S0).trans (ss_exc S1)⟩
    split at e
    · rename_i p m; exact absurd rfl h2
    · exact absurd e (by simp)
  obtain ⟨p, m, rfl⟩ : ∃ p m, parts = [p, m] := by
    match parts, h2 with
    | [p, m], _ => exact ⟨p, m, rfl⟩
  have hp := hss p (by simp)
  have hmm := hss m (by simp)
  simp only [List.map_cons, List.map_nil] at S0
  have S1 : evS (C ns (d + 2)) s_read_side_2_1 (sE t μ.length last (some (.p (pt w))) (some (.p (.lst [pt p, pt m]))) x5) (μ ++ [.lst (x.map .int)]) = .ok (.nx (sE t μ.length last (some (.p (pt w))) (some (.p (.lst [pt p, pt m]))) x5)) (μ ++ [.lst (x.map .int)]) := by
    simp only [s_read_side_2_1, List.length_map, ups_len, downs_len, Int.cast_ofNat_Int, List.take_length, Nat.add_assoc, big, v_ix0, v_ix1, v_ix2, v_ix3, v_il0, v_il1, v_in0, v_in1, v_in2, v_tg2, v_sum_ti, v_sum_li, v_len_ti, v_eq_nil, v_ne_nil, v_eq_sd, v_ne_sd, tx_inj, v_in_li, v_eq_li, v_ne_li, v_eq_bd, v_ne_bd, eq_self, and_self, or_self, Int.reduceAdd, Int.reduceSub, Int.reduceMul, Int.reduceNeg, Int.reduceLT, Int.reduceLE, Int.reduceEq, Int.reduceNe, Nat.reduceLeDiff, Nat.reduceLT, decide_true, decide_false, Bool.not_not, ite_true, ite_false, Bool.true_eq_false, Bool.false_eq_true, Bool.and_true, Bool.true_and, Bool.and_false, Bool.false_and, Bool.or_true, Bool.true_or, Bool.or_false, Bool.false_or, Bool.false_eq_true, if_false, if_true, reduceIte, List.getElem?_cons_zero, List.getElem?_cons_succ, List.set_cons_zero, List.set_cons_succ, List.map_cons, List.map_nil, List.length_cons, List.length_nil, List.cons_append, List.nil_append, List.replicate_succ, List.replicate_zero, Nat.reduceAdd, Nat.reduceSub, Bool.not_true, Bool.not_false, decide_true, decide_false, Option.map_some, List.take_succ_cons, List.take_zero, v_g0, v_gk, v_s0, v_sk, v_tk, cl_isx, cl_sub, List.append_assoc, List.length_append, evSs, evS, evE, evAs, evFs, evIs, evB, evO, evIf, cl_scr, Out.bind_ok, Out.bind_exc, Out.bind_bad, R.wipe, v_onP_p, v_onP_n, v_onP_o, v_onP_f, v_int, v_bl, v_str, v_data, v_seq, v_obj, v_ix, v_of, v_retT, v_retT_b, v_retT_s, v_retT_l, v_retB, v_retB_b, v_add, v_sub, v_mul, v_mod, v_fdiv, v_pow, v_addl, v_addt, v_adds, v_mull, v_mult, v_lt, v_le, v_gt, v_ge, v_eq, v_ne, v_eqs, v_nes, v_isN, v_isNN, v_ltt, v_binR, v_frz_p, v_frz_n, v_pop_p, v_pop_n, v_sto_p, v_sto_n, v_sto_t, v_sto_o, v_lst, v_tup, v_lenR, v_len_s, v_bi_p, v_bi_n, v_bi_o, v_len_l, v_len_t, v_sum_l, v_sum_t, v_all, v_any, v_min_t, v_max_t, v_min_l, v_max_l, v_list_l, v_list_t, v_tuple_l, v_tuple_t, v_idx_t, v_idx_l, v_idx_n, v_idx_o, v_idx_s, v_tg1, v_app, v_seti, v_thn_n, v_thn_r, v_okB, v_noexc, v_arg_p, v_arg_n, v_arg_o, v_arg_s]
  have hpl := fn_read_place ns d p (by omega) (μ ++ [.lst (x.map .int)])
  simp only
  cases hpi : placeIn p with
  | none =>
    rw [hpi] at hpl
    simp only [orText] at hpl
    have S2 : evS (C ns (d + 2)) s_read_side_2_2 (sE t μ.length last (some (.p (pt w))) (some (.p (.lst [pt p, pt m]))) x5) (μ ++ [.lst (x.map .int)]) = .exc "BadText" (μ ++ [.lst (x.map .int)]) := by
      simp only [s_read_side_2_2, hpl, List.length_map, ups_len, downs_len, Int.cast_ofNat_Int, List.take_length, Nat.add_assoc, big, v_ix0, v_ix1, v_ix2, v_ix3, v_il0, v_il1, v_in0, v_in1, v_in2, v_tg2, v_sum_ti, v_sum_li, v_len_ti, v_eq_nil, v_ne_nil, v_eq_sd, v_ne_sd, tx_inj, v_in_li, v_eq_li, v_ne_li, v_eq_bd, v_ne_bd, eq_self, and_self, or_self, Int.reduceAdd, Int.reduceSub, Int.reduceMul, Int.reduceNeg, Int.reduceLT, Int.reduceLE, Int.reduceEq, Int.reduceNe, Nat.reduceLeDiff, Nat.reduceLT, decide_true, decide_false, Bool.not_not, ite_true, ite_false, Bool.true_eq_false, Bool.false_eq_true, Bool.and_true, Bool.true_and, Bool.and_false, Bool.false_and, Bool.or_true, Bool.true_or, Bool.or_false, Bool.false_or, Bool.false_eq_true, if_false, if_true, reduceIte, List.getElem?_cons_zero, List.getElem?_cons_succ, List.set_cons_zero, List.set_cons_succ, List.map_cons, List.map_nil, List.length_cons, List.length_nil, List.cons_append, List.nil_append, List.replicate_succ, List.replicate_zero, Nat.reduceAdd, Nat.reduceSub, Bool.not_true, Bool.not_false, decide_true, decide_false, Option.map_some, List.take_succ_cons, List.take_zero, v_g0, v_gk, v_s0, v_sk, v_tk, cl_isx, cl_sub, List.append_assoc, List.length_append, evSs, evS, evE, evAs, evFs, evIs, evB, evO, evIf, cl_scr, Out.bind_ok, Out.bind_exc, Out.bind_bad, R.wipe, v_onP_p, v_onP_n, v_onP_o, v_onP_f, v_int, v_bl, v_str, v_data, v_seq, v_obj, v_ix, v_of, v_retT, v_retT_b, v_retT_s, v_retT_l, v_retB, v_retB_b, v_add, v_sub, v_mul, v_mod, v_fdiv, v_pow, v_addl, v_addt, v_adds, v_mull, v_mult, v_lt, v_le, v_gt, v_ge, v_eq, v_ne, v_eqs, v_nes, v_isN, v_isNN, v_ltt, v_binR, v_frz_p, v_frz_n, v_pop_p, v_pop_n, v_sto_p, v_sto_n, v_sto_t, v_sto_o, v_lst, v_tup, v_lenR, v_len_s, v_bi_p, v_bi_n, v_bi_o, v_len_l, v_len_t, v_sum_l, v_sum_t, v_all, v_any, v_min_t, v_max_t, v_min_l, v_max_l, v_list_l, v_list_t, v_tuple_l, v_tuple_t, v_idx_t, v_idx_l, v_idx_n, v_idx_o, v_idx_s, v_tg1, v_app, v_seti, v_thn_n, v_thn_r, v_okB, v_noexc, v_arg_p, v_arg_n, v_arg_o, v_arg_s]
    exact ⟨fun s' e => absurd e (by simp), fun _ => (ss_next S0).trans ((ss_next S1).trans (ss_exc S2))⟩
  | some q =>
    rw [hpi] at hpl
    simp only [orText] at hpl
    obtain ⟨_, q0, q1⟩ := placeIn_text hpi
    have S2 : evS (C ns (d + 2)) s_read_side_2_2 (sE t μ.length last (some (.p (pt w))) (some (.p (.lst [pt p, pt m]))) x5) (μ ++ [.lst (x.map .int)]) = .ok (.nx (sE t μ.length last (some (.p (pt w))) (some (.p (.lst [pt p, pt m]))) (some (.p (.int q))))) (μ ++ [.lst (x.map .int)]) := by
      simp only [s_read_side_2_2, hpl, List.length_map, ups_len, downs_len, Int.cast_ofNat_Int, List.take_length, Nat.add_assoc, big, v_ix0, v_ix1, v_ix2, v_ix3, v_il0, v_il1, v_in0, v_in1, v_in2, v_tg2, v_sum_ti, v_sum_li, v_len_ti, v_eq_nil, v_ne_nil, v_eq_sd, v_ne_sd, tx_inj, v_in_li, v_eq_li, v_ne_li, v_eq_bd, v_ne_bd, eq_self, and_self, or_self, Int.reduceAdd, Int.reduceSub, Int.reduceMul, Int.reduceNeg, Int.reduceLT, Int.reduceLE, Int.reduceEq, Int.reduceNe, Nat.reduceLeDiff, Nat.reduceLT, decide_true, decide_false, Bool.not_not, ite_true, ite_false, Bool.true_eq_false, Bool.false_eq_true, Bool.and_true, Bool.true_and, Bool.and_false, Bool.false_and, Bool.or_true, Bool.true_or, Bool.or_false, Bool.false_or, Bool.false_eq_true, if_false, if_true, reduceIte, List.getElem?_cons_zero, List.getElem?_cons_succ, List.set_cons_zero, List.set_cons_succ, List.map_cons, List.map_nil, List.length_cons, List.length_nil, List.cons_append, List.nil_append, List.replicate_succ, List.replicate_zero, Nat.reduceAdd, Nat.reduceSub, Bool.not_true, Bool.not_false, decide_true, decide_false, Option.map_some, List.take_succ_cons, List.take_zero, v_g0, v_gk, v_s0, v_sk, v_tk, cl_isx, cl_sub, List.append_assoc, List.length_append, evSs, evS, evE, evAs, evFs, evIs, evB, evO, evIf, cl_scr, Out.bind_ok, Out.bind_exc, Out.bind_bad, R.wipe, v_onP_p, v_onP_n, v_onP_o, v_onP_f, v_int, v_bl, v_str, v_data, v_seq, v_obj, v_ix, v_of, v_retT, v_retT_b, v_retT_s, v_retT_l, v_retB, v_retB_b, v_add, v_sub, v_mul, v_mod, v_fdiv, v_pow, v_addl, v_addt, v_adds, v_mull, v_mult, v_lt, v_le, v_gt, v_ge, v_eq, v_ne, v_eqs, v_nes, v_isN, v_isNN, v_ltt, v_binR, v_frz_p, v_frz_n, v_pop_p, v_pop_n, v_sto_p, v_sto_n, v_sto_t, v_sto_o, v_lst, v_tup, v_lenR, v_len_s, v_bi_p, v_bi_n, v_bi_o, v_len_l, v_len_t, v_sum_l, v_sum_t, v_all, v_any, v_min_t, v_max_t, v_min_l, v_max_l, v_list_l, v_list_t, v_tuple_l, v_tuple_t, v_idx_t, v_idx_l, v_idx_n, v_idx_o, v_idx_s, v_tg1, v_app, v_seti, v_thn_n, v_thn_r, v_okB, v_noexc, v_arg_p, v_arg_n, v_arg_o, v_arg_s]
    simp only
    by_cases c3 : q < last
    case neg =>
      have k : decide (last ≤ q) = true := decide_eq_true (by omega)
      have S3 : evS (C ns (d + 2)) s_read_side_2_3 (sE t μ.length last (some (.p (pt w))) (some (.p (.lst [pt p, pt m]))) (some (.p (.int q)))) (μ ++ [.lst (x.map .int)]) = .exc "BadText" (μ ++ [.lst (x.map .int)]) := by
        simp only [s_read_side_2_3, s_read_side_2_3a_0, k, List.length_map, ups_len, downs_len, Int.cast_ofNat_Int, List.take_length, Nat.add_assoc, big, v_ix0, v_ix1, v_ix2, v_ix3, v_il0, v_il1, v_in0, v_in1, v_in2, v_tg2, v_sum_ti, v_sum_li, v_len_ti, v_eq_nil, v_ne_nil, v_eq_sd, v_ne_sd, tx_inj, v_in_li, v_eq_li, v_ne_li, v_eq_bd, v_ne_bd, eq_self, and_self, or_self, Int.reduceAdd, Int.reduceSub, Int.reduceMul, Int.reduceNeg, Int.reduceLT, Int.reduceLE, Int.reduceEq, Int.reduceNe, Nat.reduceLeDiff, Nat.reduceLT, decide_true, decide_false, Bool.not_not, ite_true, ite_false, Bool.true_eq_false, Bool.false_eq_true, Bool.and_true, Bool.true_and, Bool.and_false, Bool.false_and, Bool.or_true, Bool.true_or, Bool.or_false, Bool.false_or, Bool.false_eq_true, if_false, if_true, reduceIte, List.getElem?_cons_zero, List.getElem?_cons_succ, List.set_cons_zero, List.set_cons_succ, List.map_cons, List.map_nil, List.length_cons, List.length_nil, List.cons_append, List.nil_append, List.replicate_succ, List.replicate_zero, Nat.reduceAdd, Nat.reduceSub, Bool.not_true, Bool.not_false, decide_true, decide_false, Option.map_some, List.take_succ_cons, List.take_zero, v_g0, v_gk, v_s0, v_sk, v_tk, cl_isx, cl_sub, List.append_assoc, List.length_append, evSs, evS, evE, evAs, evFs, evIs, evB, evO, evIf, cl_scr, Out.bind_ok, Out.bind_exc, Out.bind_bad, R.wipe, v_onP_p, v_onP_n, v_onP_o, v_onP_f, v_int, v_bl, v_str, v_data, v_seq, v_obj, v_ix, v_of, v_retT, v_retT_b, v_retT_s, v_retT_l, v_retB, v_retB_b, v_add, v_sub, v_mul, v_mod, v_fdiv, v_pow, v_addl, v_addt, v_adds, v_mull, v_mult, v_lt, v_le, v_gt, v_ge, v_eq, v_ne, v_eqs, v_nes, v_isN, v_isNN, v_ltt, v_binR, v_frz_p, v_frz_n, v_pop_p, v_pop_n, v_sto_p, v_sto_n, v_sto_t, v_sto_o, v_lst, v_tup, v_lenR, v_len_s, v_bi_p, v_bi_n, v_bi_o, v_len_l, v_len_t, v_sum_l, v_sum_t, v_all, v_any, v_min_t, v_max_t, v_min_l, v_max_l, v_list_l, v_list_t, v_tuple_l, v_tuple_t, v_idx_t, v_idx_l, v_idx_n, v_idx_o, v_idx_s, v_tg1, v_app, v_seti, v_thn_n, v_thn_r, v_okB, v_noexc, v_arg_p, v_arg_n, v_arg_o, v_arg_s]
        try rfl
      rw [if_neg c3]
      exact ⟨fun s' e => absurd e (by simp), fun _ => (ss_next S0).trans ((ss_next S1).trans ((ss_next S2).trans (ss_exc S3)))⟩
    have k : decide (last ≤ q) = false := decide_eq_false (by omega)
    have S3 : evS (C ns (d + 2)) s_read_side_2_3 (sE t μ.length last (some (.p (pt w))) (some (.p (.lst [pt p, pt m]))) (some (.p (.int q)))) (μ ++ [.lst (x.map .int)]) = .ok (.nx (sE t μ.length last (some (.p (pt w))) (some (.p (.lst [pt p, pt m]))) (some (.p (.int q))))) (μ ++ [.lst (x.map .int)]) := by
      simp only [s_read_side_2_3, k, List.length_map, ups_len, downs_len, Int.cast_ofNat_Int, List.take_length, Nat.add_assoc, big, v_ix0, v_ix1, v_ix2, v_ix3, v_il0, v_il1, v_in0, v_in1, v_in2, v_tg2, v_sum_ti, v_sum_li, v_len_ti, v_eq_nil, v_ne_nil, v_eq_sd, v_ne_sd, tx_inj, v_in_li, v_eq_li, v_ne_li, v_eq_bd, v_ne_bd, eq_self, and_self, or_self, Int.reduceAdd, Int.reduceSub, Int.reduceMul, Int.reduceNeg, Int.reduceLT, Int.reduceLE, Int.reduceEq, Int.reduceNe, Nat.reduceLeDiff, Nat.reduceLT, decide_true, decide_false, Bool.not_not, ite_true, ite_false, Bool.true_eq_false, Bool.false_eq_true, Bool.and_true, Bool.true_and, Bool.and_false, Bool.false_and, Bool.or_true, Bool.true_or, Bool.or_false, Bool.false_or, Bool.false_eq_true, if_false, if_true, reduceIte, List.getElem?_cons_zero, List.getElem?_cons_succ, List.set_cons_zero, List.set_cons_succ, List.map_cons, List.map_nil, List.length_cons, List.length_nil, List.cons_append, List.nil_append, List.replicate_succ, List.replicate_zero, Nat.reduceAdd, Nat.reduceSub, Bool.not_true, Bool.not_false, decide_true, decide_false, Option.map_some, List.take_succ_cons, List.take_zero, v_g0, v_gk, v_s0, v_sk, v_tk, cl_isx, cl_sub, List.append_assoc, List.length_append, evSs, evS, evE, evAs, evFs, evIs, evB, evO, evIf, cl_scr, Out.bind_ok, Out.bind_exc, Out.bind_bad, R.wipe, v_onP_p, v_onP_n, v_onP_o, v_onP_f, v_int, v_bl, v_str, v_data, v_seq, v_obj, v_ix, v_of, v_retT, v_retT_b, v_retT_s, v_retT_l, v_retB, v_retB_b, v_add, v_sub, v_mul, v_mod, v_fdiv, v_pow, v_addl, v_addt, v_adds, v_mull, v_mult, v_lt, v_le, v_gt, v_ge, v_eq, v_ne, v_eqs, v_nes, v_isN, v_isNN, v_ltt, v_binR, v_frz_p, v_frz_n, v_pop_p, v_pop_n, v_sto_p, v_sto_n, v_sto_t, v_sto_o, v_lst, v_tup, v_lenR, v_len_s, v_bi_p, v_bi_n, v_bi_o, v_len_l, v_len_t, v_sum_l, v_sum_t, v_all, v_any, v_min_t, v_max_t, v_min_l, v_max_l, v_list_l, v_list_t, v_tuple_l, v_tuple_t, v_idx_t, v_idx_l, v_idx_n, v_idx_o, v_idx_s, v_tg1, v_app, v_seti, v_thn_n, v_thn_r, v_okB, v_noexc, v_arg_p, v_arg_n, v_arg_o, v_arg_s]
    rw [if_pos c3]
    have hn := fn_number_in ns (d + 1) m (by omega) 15 (μ ++ [.lst (x.map .int)])
    cases hni : numIn m 15 with
    | none =>
      rw [hni] at hn
      simp only [orText] at hn
      have S4 : evS (C ns (d + 2)) s_read_side_2_4 (sE t μ.length last (some (.p (pt w))) (some (.p (.lst [pt p, pt m]))) (some (.p (.int q)))) (μ ++ [.lst (x.map .int)]) = .exc "BadText" (μ ++ [.lst (x.map .int)]) := by
        simp only [s_read_side_2_4, hn, List.length_map, ups_len, downs_len, Int.cast_ofNat_Int, List.take_length, Nat.add_assoc, big, v_ix0, v_ix1, v_ix2, v_ix3, v_il0, v_il1, v_in0, v_in1, v_in2, v_tg2, v_sum_ti, v_sum_li, v_len_ti, v_eq_nil, v_ne_nil, v_eq_sd, v_ne_sd, tx_inj, v_in_li, v_eq_li, v_ne_li, v_eq_bd, v_ne_bd, eq_self, and_self, or_self, Int.reduceAdd, Int.reduceSub, Int.reduceMul, Int.reduceNeg, Int.reduceLT, Int.reduceLE, Int.reduceEq, Int.reduceNe, Nat.reduceLeDiff, Nat.reduceLT, decide_true, decide_false, Bool.not_not, ite_true, ite_false, Bool.true_eq_false, Bool.false_eq_true, Bool.and_true, Bool.true_and, Bool.and_false, Bool.false_and, Bool.or_true, Bool.true_or, Bool.or_false, Bool.false_or, Bool.false_eq_true, if_false, if_true, reduceIte, List.getElem?_cons_zero, List.getElem?_cons_succ, List.set_cons_zero, List.set_cons_succ, List.map_cons, List.map_nil, List.length_cons, List.length_nil, List.cons_append, List.nil_append, List.replicate_succ, List.replicate_zero, Nat.reduceAdd, Nat.reduceSub, Bool.not_true, Bool.not_false, decide_true, decide_false, Option.map_some, List.take_succ_cons, List.take_zero, v_g0, v_gk, v_s0, v_sk, v_tk, cl_isx, cl_sub, List.append_assoc, List.length_append, evSs, evS, evE, evAs, evFs, evIs, evB, evO, evIf, cl_scr, Out.bind_ok, Out.bind_exc, Out.bind_bad, R.wipe, v_onP_p, v_onP_n, v_onP_o, v_onP_f, v_int, v_bl, v_str, v_data, v_seq, v_obj, v_ix, v_of, v_retT, v_retT_b, v_retT_s, v_retT_l, v_retB, v_retB_b, v_add, v_sub, v_mul, v_mod, v_fdiv, v_pow, v_addl, v_addt, v_adds, v_mull, v_mult, v_lt, v_le, v_gt, v_ge, v_eq, v_ne, v_eqs, v_nes, v_isN, v_isNN, v_ltt, v_binR, v_frz_p, v_frz_n, v_pop_p, v_pop_n, v_sto_p, v_sto_n, v_sto_t, v_sto_o, v_lst, v_tup, v_lenR, v_len_s, v_bi_p, v_bi_n, v_bi_o, v_len_l, v_len_t, v_sum_l, v_sum_t, v_all, v_any, v_min_t, v_max_t, v_min_l, v_max_l, v_list_l, v_list_t, v_tuple_l, v_tuple_t, v_idx_t, v_idx_l, v_idx_n, v_idx_o, v_idx_s, v_tg1, v_app, v_seti, v_thn_n, v_thn_r, v_okB, v_noexc, v_arg_p, v_arg_n, v_arg_o, v_arg_s]
      exact ⟨fun s' e => absurd e (by simp), fun _ => (ss_next S0).trans ((ss_next S1).trans ((ss_next S2).trans ((ss_next S3).trans (ss_exc S4))))⟩
    | some v =>
      rw [hni] at hn
      simp only [orText] at hn
      have hk : (μ ++ [MO.lst (x.map .int)])[μ.length]? = some (.lst (x.map .int)) := by rw [v_g0]; rfl
      have g : ∀ ρ : Env, setiR (.p (.int v)) (.o μ.length) (.p (.int q)) ρ (μ ++ [.lst (x.map .int)]) = .ok (.nx ρ) (μ ++ [.lst ((si x q v).map .int)]) := fun ρ => by
        rw [v_ssi hk q0 (by omega), v_s0]; rfl
      have S4 : evS (C ns (d + 2)) s_read_side_2_4 (sE t μ.length last (some (.p (pt w))) (some (.p (.lst [pt p, pt m]))) (some (.p (.int q)))) (μ ++ [.lst (x.map .int)]) = .ok (.nx (sE t μ.length last (some (.p (pt w))) (some (.p (.lst [pt p, pt m]))) (some (.p (.int q))))) (μ ++ [.lst ((si x q v).map .int)]) := by
        simp only [s_read_side_2_4, hn, g, List.length_map, ups_len, downs_len, Int.cast_ofNat_Int, List.take_length, Nat.add_assoc, big, v_ix0, v_ix1, v_ix2, v_ix3, v_il0, v_il1, v_in0, v_in1, v_in2, v_tg2, v_sum_ti, v_sum_li, v_len_ti, v_eq_nil, v_ne_nil, v_eq_sd, v_ne_sd, tx_inj, v_in_li, v_eq_li, v_ne_li, v_eq_bd, v_ne_bd, eq_self, and_self, or_self, Int.reduceAdd, Int.reduceSub, Int.reduceMul, Int.reduceNeg, Int.reduceLT, Int.reduceLE, Int.reduceEq, Int.reduceNe, Nat.reduceLeDiff, Nat.reduceLT, decide_true, decide_false, Bool.not_not, ite_true, ite_false, Bool.true_eq_false, Bool.false_eq_true, Bool.and_true, Bool.true_and, Bool.and_false, Bool.false_and, Bool.or_true, Bool.true_or, Bool.or_false, Bool.false_or, Bool.false_eq_true, if_false, if_true, reduceIte, List.getElem?_cons_zero, List.getElem?_cons_succ, List.set_cons_zero, List.set_cons_succ, List.map_cons, List.map_nil, List.length_cons, List.length_nil, List.cons_append, List.nil_append, List.replicate_succ, List.replicate_zero, Nat.reduceAdd, Nat.reduceSub, Bool.not_true, Bool.not_false, decide_true, decide_false, Option.map_some, List.take_succ_cons, List.take_zero, v_g0, v_gk, v_s0, v_sk, v_tk, cl_isx, cl_sub, List.append_assoc, List.length_append, evSs, evS, evE, evAs, evFs, evIs, evB, evO, evIf, cl_scr, Out.bind_ok, Out.bind_exc, Out.bind_bad, R.wipe, v_onP_p, v_onP_n, v_onP_o, v_onP_f, v_int, v_bl, v_str, v_data, v_seq, v_obj, v_ix, v_of, v_retT, v_retT_b, v_retT_s, v_retT_l, v_retB, v_retB_b, v_add, v_sub, v_mul, v_mod, v_fdiv, v_pow, v_addl, v_addt, v_adds, v_mull, v_mult, v_lt, v_le, v_gt, v_ge, v_eq, v_ne, v_eqs, v_nes, v_isN, v_isNN, v_ltt, v_binR, v_frz_p, v_frz_n, v_pop_p, v_pop_n, v_sto_p, v_sto_n, v_sto_t, v_sto_o, v_lst, v_tup, v_lenR, v_len_s, v_bi_p, v_bi_n, v_bi_o, v_len_l, v_len_t, v_sum_l, v_sum_t, v_all, v_any, v_min_t, v_max_t, v_min_l, v_max_l, v_list_l, v_list_t, v_tuple_l, v_tuple_t, v_idx_t, v_idx_l, v_idx_n, v_idx_o, v_idx_s, v_tg1, v_app, v_seti, v_thn_n, v_thn_r, v_okB, v_noexc, v_arg_p, v_arg_n, v_arg_o, v_arg_s]
      have S5 : evS (C ns (d + 2)) s_read_side_2_5 (sE t μ.length last (some (.p (pt w))) (some (.p (.lst [pt p, pt m]))) (some (.p (.int q)))) (μ ++ [.lst ((si x q v).map .int)]) = .ok (.nx (sE t μ.length q (some (.p (pt w))) (some (.p (.lst [pt p, pt m]))) (some (.p (.int q))))) (μ ++ [.lst ((si x q v).map .int)]) := by
        simp only [s_read_side_2_5, List.length_map, ups_len, downs_len, Int.cast_ofNat_Int, List.take_length, Nat.add_assoc, big, v_ix0, v_ix1, v_ix2, v_ix3, v_il0, v_il1, v_in0, v_in1, v_in2, v_tg2, v_sum_ti, v_sum_li, v_len_ti, v_eq_nil, v_ne_nil, v_eq_sd, v_ne_sd, tx_inj, v_in_li, v_eq_li, v_ne_li, v_eq_bd, v_ne_bd, eq_self, and_self, or_self, Int.reduceAdd, Int.reduceSub, Int.reduceMul, Int.reduceNeg, Int.reduceLT, Int.reduceLE, Int.reduceEq, Int.reduceNe, Nat.reduceLeDiff, Nat.reduceLT, decide_true, decide_false, Bool.not_not, ite_true, ite_false, Bool.true_eq_false, Bool.false_eq_true, Bool.and_true, Bool.true_and, Bool.and_false, Bool.false_and, Bool.or_true, Bool.true_or, Bool.or_false, Bool.false_or, Bool.false_eq_true, if_false, if_true, reduceIte, List.getElem?_cons_zero, List.getElem?_cons_succ, List.set_cons_zero, List.set_cons_succ, List.map_cons, List.map_nil, List.length_cons, List.length_nil, List.cons_append, List.nil_append, List.replicate_succ, List.replicate_zero, Nat.reduceAdd, Nat.reduceSub, Bool.not_true, Bool.not_false, decide_true, decide_false, Option.map_some, List.take_succ_cons, List.take_zero, v_g0, v_gk, v_s0, v_sk, v_tk, cl_isx, cl_sub, List.append_assoc, List.length_append, evSs, evS, evE, evAs, evFs, evIs, evB, evO, evIf, cl_scr, Out.bind_ok, Out.bind_exc, Out.bind_bad, R.wipe, v_onP_p, v_onP_n, v_onP_o, v_onP_f, v_int, v_bl, v_str, v_data, v_seq, v_obj, v_ix, v_of, v_retT, v_retT_b, v_retT_s, v_retT_l, v_retB, v_retB_b, v_add, v_sub, v_mul, v_mod, v_fdiv, v_pow, v_addl, v_addt, v_adds, v_mull, v_mult, v_lt, v_le, v_gt, v_ge, v_eq, v_ne, v_eqs, v_nes, v_isN, v_isNN, v_ltt, v_binR, v_frz_p, v_frz_n, v_pop_p, v_pop_n, v_sto_p, v_sto_n, v_sto_t, v_sto_o, v_lst, v_tup, v_lenR, v_len_s, v_bi_p, v_bi_n, v_bi_o, v_len_l, v_len_t, v_sum_l, v_sum_t, v_all, v_any, v_min_t, v_max_t, v_min_l, v_max_l, v_list_l, v_list_t, v_tuple_l, v_tuple_t, v_idx_t, v_idx_l, v_idx_n, v_idx_o, v_idx_s, v_tg1, v_app, v_seti, v_thn_n, v_thn_r, v_okB, v_noexc, v_arg_p, v_arg_n, v_arg_o, v_arg_s]
      refine ⟨fun s' e => ?_, fun e => absurd e (by simp)⟩
      simp only [Option.some.injEq] at e
      subst e
      exact ⟨_, _, (ss_next S0).trans ((ss_next S1).trans ((ss_next S2).trans ((ss_next S3).trans ((ss_next S4).trans ((ss_next S5).trans rfl))))), by rw [si_len]; exact lx⟩
def orSide (x : Option (List Int)) (μ : Mu) : Out Rv := match x with
  | some a => .ok (.p (sd a)) μ
  | none => .exc "BadText" μ
theorem fn_read_side (ns : List Int) (d : Nat) (t : List Nat) (ht : t.length ≤ 900) (μ : Mu) : (C ns (d + 3)).fn 7 [.p (pt t)] μ = orSide (readS t) μ ∧ ∀ a, readS t = some a → a.length = 26 := by
  rw [cl_fn (f := f_read_side) rfl]
  have hs := v_split (a := t) (b := [32]) (by simp) (by decide) (by show _ ≤ 1000000; omega)
  have hss : ∀ p ∈ TL.spl [32] 0 [] t, p.length ≤ 900 := fun p hp => Nat.le_trans (spl_short hp) ht
  unfold readS
  generalize TL.spl [32] 0 [] t = ws at *
  have m26 := mul_26
  have l26 : (List.replicate 26 (0 : Int)).length = 26 := by rw [List.length_replicate]
  generalize List.replicate 26 (0 : Int) = z at *
  have S0 : evS (C ns (d + 2)) s_read_side_0 [some (.p (pt t)), none, none, none, none, none] μ = .ok (.nx [some (.p (pt t)), some (.o μ.length), none, none, none, none]) (μ ++ [.lst (z.map .int)]) := by
    simp only [s_read_side_0, m26, List.length_map, ups_len, downs_len, Int.cast_ofNat_Int, List.take_length, Nat.add_assoc, big, v_ix0, v_ix1, v_ix2, v_ix3, v_il0, v_il1, v_in0, v_in1, v_in2, v_tg2, v_sum_ti, v_sum_li, v_len_ti, v_eq_nil, v_ne_nil, v_eq_sd, v_ne_sd, tx_inj, v_in_li, v_eq_li, v_ne_li, v_eq_bd, v_ne_bd, eq_self, and_self, or_self, Int.reduceAdd, Int.reduceSub, Int.reduceMul, Int.reduceNeg, Int.reduceLT, Int.reduceLE, Int.reduceEq, Int.reduceNe, Nat.reduceLeDiff, Nat.reduceLT, decide_true, decide_false, Bool.not_not, ite_true, ite_false, Bool.true_eq_false, Bool.false_eq_true, Bool.and_true, Bool.true_and, Bool.and_false, Bool.false_and, Bool.or_true, Bool.true_or, Bool.or_false, Bool.false_or, Bool.false_eq_true, if_false, if_true, reduceIte, List.getElem?_cons_zero, List.getElem?_cons_succ, List.set_cons_zero, List.set_cons_succ, List.map_cons, List.map_nil, List.length_cons, List.length_nil, List.cons_append, List.nil_append, List.replicate_succ, List.replicate_zero, Nat.reduceAdd, Nat.reduceSub, Bool.not_true, Bool.not_false, decide_true, decide_false, Option.map_some, List.take_succ_cons, List.take_zero, v_g0, v_gk, v_s0, v_sk, v_tk, cl_isx, cl_sub, List.append_assoc, List.length_append, evSs, evS, evE, evAs, evFs, evIs, evB, evO, evIf, cl_scr, Out.bind_ok, Out.bind_exc, Out.bind_bad, R.wipe, v_onP_p, v_onP_n, v_onP_o, v_onP_f, v_int, v_bl, v_str, v_data, v_seq, v_obj, v_ix, v_of, v_retT, v_retT_b, v_retT_s, v_retT_l, v_retB, v_retB_b, v_add, v_sub, v_mul, v_mod, v_fdiv, v_pow, v_addl, v_addt, v_adds, v_mull, v_mult, v_lt, v_le, v_gt, v_ge, v_eq, v_ne, v_eqs, v_nes, v_isN, v_isNN, v_ltt, v_binR, v_frz_p, v_frz_n, v_pop_p, v_pop_n, v_sto_p, v_sto_n, v_sto_t, v_sto_o, v_lst, v_tup, v_lenR, v_len_s, v_bi_p, v_bi_n, v_bi_o, v_len_l, v_len_t, v_sum_l, v_sum_t, v_all, v_any, v_min_t, v_max_t, v_min_l, v_max_l, v_list_l, v_list_t, v_tuple_l, v_tuple_t, v_idx_t, v_idx_l, v_idx_n, v_idx_o, v_idx_s, v_tg1, v_app, v_seti, v_thn_n, v_thn_r, v_okB, v_noexc, v_arg_p, v_arg_n, v_arg_o, v_arg_s]
  have S1 : evS (C ns (d + 2)) s_read_side_1 [some (.p (pt t)), some (.o μ.length), none, none, none, none] (μ ++ [.lst (z.map .int)]) = .ok (.nx (sE (pt t) μ.length 26 none none none)) (μ ++ [.lst (z.map .int)]) := by
    simp only [s_read_side_1, List.length_map, ups_len, downs_len, Int.cast_ofNat_Int, List.take_length, Nat.add_assoc, big, v_ix0, v_ix1, v_ix2, v_ix3, v_il0, v_il1, v_in0, v_in1, v_in2, v_tg2, v_sum_ti, v_sum_li, v_len_ti, v_eq_nil, v_ne_nil, v_eq_sd, v_ne_sd, tx_inj, v_in_li, v_eq_li, v_ne_li, v_eq_bd, v_ne_bd, eq_self, and_self, or_self, Int.reduceAdd, Int.reduceSub, Int.reduceMul, Int.reduceNeg, Int.reduceLT, Int.reduceLE, Int.reduceEq, Int.reduceNe, Nat.reduceLeDiff, Nat.reduceLT, decide_true, decide_false, Bool.not_not, ite_true, ite_false, Bool.true_eq_false, Bool.false_eq_true, Bool.and_true, Bool.true_and, Bool.and_false, Bool.false_and, Bool.or_true, Bool.true_or, Bool.or_false, Bool.false_or, Bool.false_eq_true, if_false, if_true, reduceIte, List.getElem?_cons_zero, List.getElem?_cons_succ, List.set_cons_zero, List.set_cons_succ, List.map_cons, List.map_nil, List.length_cons, List.length_nil, List.cons_append, List.nil_append, List.replicate_succ, List.replicate_zero, Nat.reduceAdd, Nat.reduceSub, Bool.not_true, Bool.not_false, decide_true, decide_false, Option.map_some, List.take_succ_cons, List.take_zero, v_g0, v_gk, v_s0, v_sk, v_tk, cl_isx, cl_sub, List.append_assoc, List.length_append, evSs, evS, evE, evAs, evFs, evIs, evB, evO, evIf, cl_scr, Out.bind_ok, Out.bind_exc, Out.bind_bad, R.wipe, v_onP_p, v_onP_n, v_onP_o, v_onP_f, v_int, v_bl, v_str, v_data, v_seq, v_obj, v_ix, v_of, v_retT, v_retT_b, v_retT_s, v_retT_l, v_retB, v_retB_b, v_add, v_sub, v_mul, v_mod, v_fdiv, v_pow, v_addl, v_addt, v_adds, v_mull, v_mult, v_lt, v_le, v_gt, v_ge, v_eq, v_ne, v_eqs, v_nes, v_isN, v_isNN, v_ltt, v_binR, v_frz_p, v_frz_n, v_pop_p, v_pop_n, v_sto_p, v_sto_n, v_sto_t, v_sto_o, v_lst, v_tup, v_lenR, v_len_s, v_bi_p, v_bi_n, v_bi_o, v_len_l, v_len_t, v_sum_l, v_sum_t, v_all, v_any, v_min_t, v_max_t, v_min_l, v_max_l, v_list_l, v_list_t, v_tuple_l, v_tuple_t, v_idx_t, v_idx_l, v_idx_n, v_idx_o, v_idx_s, v_tg1, v_app, v_seti, v_thn_n, v_thn_r, v_okB, v_noexc, v_arg_p, v_arg_n, v_arg_o, v_arg_s]
  have hm : meR .split (tx t) (.p (pt [32])) (μ ++ [.lst (z.map .int)]) = .ok (.n (ws.map pt)) (μ ++ [.lst (z.map .int)]) := by simp only [meR, v_onP_p, hs, v_of]
  have hloop : evS (C ns (d + 2)) s_read_side_2 (sE (pt t) μ.length 26 none none none) (μ ++ [.lst (z.map .int)]) = forL (fun d_1 ρ μ_1 => tgR false [3] d_1 ρ fun ρ1 => evSs (C ns (d + 2)) [s_read_side_2_0, s_read_side_2_1, s_read_side_2_2, s_read_side_2_3, s_read_side_2_4, s_read_side_2_5] ρ1 μ_1) (ws.map pt) (sE (pt t) μ.length 26 none none none) (μ ++ [.lst (z.map .int)]) := by
    simp only [s_read_side_2, evS, evE, evFs, l_sp, v_retT, v_retB, Out.bind_ok, v_str, hm, v_frz_n, itemsP, v_of, List.getElem?_cons_zero, Bool.false_eq_true, if_false]
  obtain ⟨f1, f2⟩ := forL_foldO (body := fun d_1 ρ μ_1 => tgR false [3] d_1 ρ fun ρ1 => evSs (C ns (d + 2)) [s_read_side_2_0, s_read_side_2_1, s_read_side_2_2, s_read_side_2_3, s_read_side_2_4, s_read_side_2_5] ρ1 μ_1) (g := pt) (n := "BadText") (fun (s : List Int × Int) ρ μ' => s.1.length = 26 ∧ μ' = μ ++ [.lst (s.1.map .int)] ∧ ∃ x3 x4 x5, ρ = sE (pt t) μ.length s.2 x3 x4 x5) (fun μ' => μ'.take μ.length = μ) sideStep ws (z, 26) (by
    rintro w hw ⟨x, last⟩ ρ μ1 ⟨lx, rfl, x3, x4, x5, rfl⟩
    obtain ⟨h1, h2⟩ := read_word ns d (pt t) μ w (hss w hw) x lx last x4 x5
    refine ⟨fun s' e => ?_, fun e => ?_⟩
    · obtain ⟨y4, y5, e1, l1⟩ := h1 s' e
      exact ⟨sE (pt t) μ.length s'.2 (some (.p (pt w))) y4 y5, μ ++ [.lst (s'.1.map .int)], by simp only [v_tg1, List.set_cons_succ, List.set_cons_zero, e1], l1, rfl, _, _, _, rfl⟩
    · exact ⟨μ ++ [.lst (x.map .int)], by simp only [v_tg1, List.set_cons_succ, List.set_cons_zero, h2 e], v_tk⟩) _ _ ⟨l26, rfl, none, none, none, rfl⟩
  cases hf : ws.foldlM sideStep (z, 26) with
  | none =>
    obtain ⟨μ', e, q⟩ := f2 hf
    refine ⟨?_, fun a e => absurd e (by simp)⟩
    rw [fn_exc (f := f_read_side) (ρ := [some (.p (pt t)), none, none, none, none, none]) rfl rfl ((ss_next S0).trans ((ss_next S1).trans (ss_exc (hloop.trans e)))), q]
    rfl
  | some s =>
    obtain ⟨ρ', μ', e, l1, rfl, x3, x4, x5, rfl⟩ := f1 s hf
    refine ⟨?_, fun a e => by simp only [Option.map_some, Option.some.injEq] at e; rw [← e]; exact l1⟩
    have hk : (μ ++ [MO.lst (s.1.map .int)])[μ.length]? = some (.lst (s.1.map .int)) := by rw [v_g0]; rfl
    have S3 : evS (C ns (d + 2)) s_read_side_3 (sE (pt t) μ.length s.2 x3 x4 x5) (μ ++ [.lst (s.1.map .int)]) = .ok (.rt (.p (sd s.1))) (μ ++ [.lst (s.1.map .int)]) := by
      simp only [s_read_side_3, v_bi_o hk, List.length_map, ups_len, downs_len, Int.cast_ofNat_Int, List.take_length, Nat.add_assoc, big, v_ix0, v_ix1, v_ix2, v_ix3, v_il0, v_il1, v_in0, v_in1, v_in2, v_tg2, v_sum_ti, v_sum_li, v_len_ti, v_eq_nil, v_ne_nil, v_eq_sd, v_ne_sd, tx_inj, v_in_li, v_eq_li, v_ne_li, v_eq_bd, v_ne_bd, eq_self, and_self, or_self, Int.reduceAdd, Int.reduceSub, Int.reduceMul, Int.reduceNeg, Int.reduceLT, Int.reduceLE, Int.reduceEq, Int.reduceNe, Nat.reduceLeDiff, Nat.reduceLT, decide_true, decide_false, Bool.not_not, ite_true, ite_false, Bool.true_eq_false, Bool.false_eq_true, Bool.and_true, Bool.true_and, Bool.and_false, Bool.false_and, Bool.or_true, Bool.true_or, Bool.or_false, Bool.false_or, Bool.false_eq_true, if_false, if_true, reduceIte, List.getElem?_cons_zero, List.getElem?_cons_succ, List.set_cons_zero, List.set_cons_succ, List.map_cons, List.map_nil, List.length_cons, List.length_nil, List.cons_append, List.nil_append, List.replicate_succ, List.replicate_zero, Nat.reduceAdd, Nat.reduceSub, Bool.not_true, Bool.not_false, decide_true, decide_false, Option.map_some, List.take_succ_cons, List.take_zero, v_g0, v_gk, v_s0, v_sk, v_tk, cl_isx, cl_sub, List.append_assoc, List.length_append, evSs, evS, evE, evAs, evFs, evIs, evB, evO, evIf, cl_scr, Out.bind_ok, Out.bind_exc, Out.bind_bad, R.wipe, v_onP_p, v_onP_n, v_onP_o, v_onP_f, v_int, v_bl, v_str, v_data, v_seq, v_obj, v_ix, v_of, v_retT, v_retT_b, v_retT_s, v_retT_l, v_retB, v_retB_b, v_add, v_sub, v_mul, v_mod, v_fdiv, v_pow, v_addl, v_addt, v_adds, v_mull, v_mult, v_lt, v_le, v_gt, v_ge, v_eq, v_ne, v_eqs, v_nes, v_isN, v_isNN, v_ltt, v_binR, v_frz_p, v_frz_n, v_pop_p, v_pop_n, v_sto_p, v_sto_n, v_sto_t, v_sto_o, v_lst, v_tup, v_lenR, v_len_s, v_bi_p, v_bi_n, v_bi_o, v_len_l, v_len_t, v_sum_l, v_sum_t, v_all, v_any, v_min_t, v_max_t, v_min_l, v_max_l, v_list_l, v_list_t, v_tuple_l, v_tuple_t, v_idx_t, v_idx_l, v_idx_n, v_idx_o, v_idx_s, v_tg1, v_app, v_seti, v_thn_n, v_thn_r, v_okB, v_noexc, v_arg_p, v_arg_n, v_arg_o, v_arg_s]
    rw [fn_ret (f := f_read_side) (ρ := [some (.p (pt t)), none, none, none, none, none]) rfl rfl ((ss_next S0).trans ((ss_next S1).trans ((ss_next (hloop.trans e)).trans (ss_last S3)))), v_pop_p, v_tk]
    rfl
def readB (t : List Nat) : Option Bd := match TL.spl sepC 0 [] t with
  | [x, y] => match readS x, readS y with
    | some a, some b => if isBoard a b = true then some (a, b) else none
    | _, _ => none
  | _ => none
def orBd (x : Option Bd) (μ : Mu) : Out Rv := match x with
  | some b => .ok (.p (encB b)) μ
  | none => .exc "BadText" μ
theorem sub_bb : subN raised asked "BadBoard" "BadBoard" = some true := by decide +kernel
theorem splS_short {S l : List Nat} {p : List Nat} (h : p ∈ TL.spl S 0 [] l) : p.length ≤ l.length := by
  have key : ∀ (n : Nat) (l acc : List Nat), l.length ≤ n → ∀ p ∈ TL.spl S 0 acc l, p.length ≤ acc.length + l.length := by
    intro n
    induction n with
    | zero =>
      intro l acc hl p hp
      cases l with
      | nil => rw [TL.spl_nil, List.mem_singleton] at hp; rw [hp]; simp
      | cons x l => simp at hl
    | succ n ih =>
      intro l acc hl p hp
      cases l with
      | nil => rw [TL.spl_nil, List.mem_singleton] at hp; rw [hp]; simp
      | cons x l =>
        simp only [List.length_cons] at hl ⊢
        cases hpre : TL.pre S (x :: l) with
        | true =>
          rw [TL.spl_hit hpre, TL.spl_pass] at hp
          rcases List.mem_cons.mp hp with rfl | hp
          · omega
          · have := ih (l.drop (S.length - 1)) [] (by rw [List.length_drop]; omega) p hp
            rw [List.length_drop] at this
            simp only [List.length_nil] at this
            omega
        | false =>
          rw [TL.spl_miss hpre] at hp
          have := ih l (acc ++ [x]) (by omega) p hp
          simp only [List.length_append, List.length_cons, List.length_nil] at this
          omega
  have := key l.length l [] (Nat.le_refl _) p h
  simpa using this
theorem fn_read_board (ns : List Int) (d : Nat) (t : List Nat) (ht : t.length ≤ 900) (μ : Mu) : (C ns (d + 4)).fn 8 [.p (pt t)] μ = orBd (readB t) μ := by
  rw [cl_fn (f := f_read_board) rfl]
  have hs := v_split (a := t) (b := sepC) (by simp [sepC]) (by decide) (by show _ ≤ 1000000; omega)
  have hss : ∀ p ∈ TL.spl sepC 0 [] t, p.length ≤ 900 := fun p hp => Nat.le_trans (splS_short hp) ht
  unfold readB
  have ls : Str.ofString " | " = tx sepC := l_sep
  generalize TL.spl sepC 0 [] t = parts at *
  have hm : meR .split (tx t) (.p (pt sepC)) μ = .ok (.n (parts.map pt)) μ := by simp only [meR, v_onP_p, hs, v_of]
  have S0 : evS (C ns (d + 3)) s_read_board_0 [some (.p (pt t)), none, none, none] μ = .ok (.nx [some (.p (pt t)), some (.p (.lst (parts.map pt))), none, none]) μ := by
    generalize parts.map pt = Q at *
    simp only [s_read_board_0, ls, hm, List.length_map, ups_len, downs_len, Int.cast_ofNat_Int, List.take_length, Nat.add_assoc, big, v_ix0, v_ix1, v_ix2, v_ix3, v_il0, v_il1, v_in0, v_in1, v_in2, v_tg2, v_sum_ti, v_sum_li, v_len_ti, v_eq_nil, v_ne_nil, v_eq_sd, v_ne_sd, tx_inj, v_in_li, v_eq_li, v_ne_li, v_eq_bd, v_ne_bd, eq_self, and_self, or_self, Int.reduceAdd, Int.reduceSub, Int.reduceMul, Int.reduceNeg, Int.reduceLT, Int.reduceLE, Int.reduceEq, Int.reduceNe, Nat.reduceLeDiff, Nat.reduceLT, decide_true, decide_false, Bool.not_not, ite_true, ite_false, Bool.true_eq_false, Bool.false_eq_true, Bool.and_true, Bool.true_and, Bool.and_false, Bool.false_and, Bool.or_true, Bool.true_or, Bool.or_false, Bool.false_or, Bool.false_eq_true, if_false, if_true, reduceIte, List.getElem?_cons_zero, List.getElem?_cons_succ, List.set_cons_zero, List.set_cons_succ, List.map_cons, List.map_nil, List.length_cons, List.length_nil, List.cons_append, List.nil_append, List.replicate_succ, List.replicate_zero, Nat.reduceAdd, Nat.reduceSub, Bool.not_true, Bool.not_false, decide_true, decide_false, Option.map_some, List.take_succ_cons, List.take_zero, v_g0, v_gk, v_s0, v_sk, v_tk, cl_isx, cl_sub, List.append_assoc, List.length_append, evSs, evS, evE, evAs, evFs, evIs, evB, evO, evIf, cl_scr, Out.bind_ok, Out.bind_exc, Out.bind_bad, R.wipe, v_onP_p, v_onP_n, v_onP_o, v_onP_f, v_int, v_bl, v_str, v_data, v_seq, v_obj, v_ix, v_of, v_retT, v_retT_b, v_retT_s, v_retT_l, v_retB, v_retB_b, v_add, v_sub, v_mul, v_mod, v_fdiv, v_pow, v_addl, v_addt, v_adds, v_mull, v_mult, v_lt, v_le, v_gt, v_ge, v_eq, v_ne, v_eqs, v_nes, v_isN, v_isNN, v_ltt, v_binR, v_frz_p, v_frz_n, v_pop_p, v_pop_n, v_sto_p, v_sto_n, v_sto_t, v_sto_o, v_lst, v_tup, v_lenR, v_len_s, v_bi_p, v_bi_n, v_bi_o, v_len_l, v_len_t, v_sum_l, v_sum_t, v_all, v_any, v_min_t, v_max_t, v_min_l, v_max_l, v_list_l, v_list_t, v_tuple_l, v_tuple_t, v_idx_t, v_idx_l, v_idx_n, v_idx_o, v_idx_s, v_tg1, v_app, v_seti, v_thn_n, v_thn_r, v_okB, v_noexc, v_arg_p, v_arg_n, v_arg_o, v_arg_s]
  by_cases h2 : parts.length = 2
  case neg =>
    have k : decide ((parts.length : Int) = 2) = false := decide_eq_false (by omega)
    have S1 : evS (C ns (d + 3)) s_read_board_1 [some (.p (pt t)), some (.p (.lst (parts.map pt))), none, none] μ = .exc "BadText" μ := by
      simp only [s_read_board_1, s_read_board_1a_0, k, List.length_map, ups_len, downs_len, Int.cast_ofNat_Int, List.take_length, Nat.add_assoc, big, v_ix0, v_ix1, v_ix2, v_ix3, v_il0, v_il1, v_in0, v_in1, v_in2, v_tg2, v_sum_ti, v_sum_li, v_len_ti, v_eq_nil, v_ne_nil, v_eq_sd, v_ne_sd, tx_inj, v_in_li, v_eq_li, v_ne_li, v_eq_bd, v_ne_bd, eq_self, and_self, or_self, Int.reduceAdd, Int.reduceSub, Int.reduceMul, Int.reduceNeg, Int.reduceLT, Int.reduceLE, Int.reduceEq, Int.reduceNe, Nat.reduceLeDiff, Nat.reduceLT, decide_true, decide_false, Bool.not_not, ite_true, ite_false, Bool.true_eq_false, Bool.false_eq_true, Bool.and_true, Bool.true_and, Bool.and_false, Bool.false_and, Bool.or_true, Bool.true_or, Bool.or_false, Bool.false_or, Bool.false_eq_true, if_false, if_true, reduceIte, List.getElem?_cons_zero, List.getElem?_cons_succ, List.set_cons_zero, List.set_cons_succ, List.map_cons, List.map_nil, List.length_cons, List.length_nil, List.cons_append, List.nil_append, List.replicate_succ, List.replicate_zero, Nat.reduceAdd, Nat.reduceSub, Bool.not_true, Bool.not_false, decide_true, decide_false, Option.map_some, List.take_succ_cons, List.take_zero, v_g0, v_gk, v_s0, v_sk, v_tk, cl_isx, cl_sub, List.append_assoc, List.length_append, evSs, evS, evE, evAs, evFs, evIs, evB, evO, evIf, cl_scr, Out.bind_ok, Out.bind_exc, Out.bind_bad, R.wipe, v_onP_p, v_onP_n, v_onP_o, v_onP_f, v_int, v_bl, v_str, v_data, v_seq, v_obj, v_ix, v_of, v_retT, v_retT_b, v_retT_s, v_retT_l, v_retB, v_retB_b, v_add, v_sub, v_mul, v_mod, v_fdiv, v_pow, v_addl, v_addt, v_adds, v_mull, v_mult, v_lt, v_le, v_gt, v_ge, v_eq, v_ne, v_eqs, v_nes, v_isN, v_isNN, v_ltt, v_binR, v_frz_p, v_frz_n, v_pop_p, v_pop_n, v_sto_p, v_sto_n, v_sto_t, v_sto_o, v_lst, v_tup, v_lenR, v_len_s, v_bi_p, v_bi_n, v_bi_o, v_len_l, v_len_t, v_sum_l, v_sum_t, v_all, v_any, v_min_t, v_max_t, v_min_l, v_max_l, v_list_l, v_list_t, v_tuple_l, v_tuple_t, v_idx_t, v_idx_l, v_idx_n, v_idx_o, v_idx_s, v_tg1, v_app, v_seti, v_thn_n, v_thn_r, v_okB, v_noexc, v_arg_p, v_arg_n, v_arg_o, v_arg_s]
      try rfl
    rw [fn_exc (f := f_read_board) (ρ := [some (.p (pt t)), none, none, none]) rfl rfl ((ss_next S0).trans (ss_exc S1)), List.take_length]
    split
    · exact absurd rfl h2
    · rfl
  obtain ⟨x, y, rfl⟩ : ∃ x y, parts = [x, y] := by
    match parts, h2 with
    | [x, y], _ => exact ⟨x, y, rfl⟩
  simp only [List.map_cons, List.map_nil] at S0
  have S1 : evS (C ns (d + 3)) s_read_board_1 [some (.p (pt t)), some (.p (.lst [pt x, pt y])), none, none] μ = .ok (.nx [some (.p (pt t)), some (.p (.lst [pt x, pt y])), none, none]) μ := by
    simp only [s_read_board_1, List.length_map, ups_len, downs_len, Int.cast_ofNat_Int, List.take_length, Nat.add_assoc, big, v_ix0, v_ix1, v_ix2, v_ix3, v_il0, v_il1, v_in0, v_in1, v_in2, v_tg2, v_sum_ti, v_sum_li, v_len_ti, v_eq_nil, v_ne_nil, v_eq_sd, v_ne_sd, tx_inj, v_in_li, v_eq_li, v_ne_li, v_eq_bd, v_ne_bd, eq_self, and_self, or_self, Int.reduceAdd, Int.reduceSub, Int.reduceMul, Int.reduceNeg, Int.reduceLT, Int.reduceLE, Int.reduceEq, Int.reduceNe, Nat.reduceLeDiff, Nat.reduceLT, decide_true, decide_false, Bool.not_not, ite_true, ite_false, Bool.true_eq_false, Bool.false_eq_true, Bool.and_true, Bool.true_and, Bool.and_false, Bool.false_and, Bool.or_true, Bool.true_or, Bool.or_false, Bool.false_or, Bool.false_eq_true, if_false, if_true, reduceIte, List.getElem?_cons_zero, List.getElem?_cons_succ, List.set_cons_zero, List.set_cons_succ, List.map_cons, List.map_nil, List.length_cons, List.length_nil, List.cons_append, List.nil_append, List.replicate_succ, List.replicate_zero, Nat.reduceAdd, Nat.reduceSub, Bool.not_true, Bool.not_false, decide_true, decide_false, Option.map_some, List.take_succ_cons, List.take_zero, v_g0, v_gk, v_s0, v_sk, v_tk, cl_isx, cl_sub, List.append_assoc, List.length_append, evSs, evS, evE, evAs, evFs, evIs, evB, evO, evIf, cl_scr, Out.bind_ok, Out.bind_exc, Out.bind_bad, R.wipe, v_onP_p, v_onP_n, v_onP_o, v_onP_f, v_int, v_bl, v_str, v_data, v_seq, v_obj, v_ix, v_of, v_retT, v_retT_b, v_retT_s, v_retT_l, v_retB, v_retB_b, v_add, v_sub, v_mul, v_mod, v_fdiv, v_pow, v_addl, v_addt, v_adds, v_mull, v_mult, v_lt, v_le, v_gt, v_ge, v_eq, v_ne, v_eqs, v_nes, v_isN, v_isNN, v_ltt, v_binR, v_frz_p, v_frz_n, v_pop_p, v_pop_n, v_sto_p, v_sto_n, v_sto_t, v_sto_o, v_lst, v_tup, v_lenR, v_len_s, v_bi_p, v_bi_n, v_bi_o, v_len_l, v_len_t, v_sum_l, v_sum_t, v_all, v_any, v_min_t, v_max_t, v_min_l, v_max_l, v_list_l, v_list_t, v_tuple_l, v_tuple_t, v_idx_t, v_idx_l, v_idx_n, v_idx_o, v_idx_s, v_tg1, v_app, v_seti, v_thn_n, v_thn_r, v_okB, v_noexc, v_arg_p, v_arg_n, v_arg_o, v_arg_s]
  obtain ⟨e1, l1⟩ := fn_read_side ns d x (hss x (by simp)) μ
  obtain ⟨e2, l2⟩ := fn_read_side ns d y (hss y (by simp)) μ
  simp only
  cases hx : readS x with
  | none =>
    rw [hx] at e1
    simp only [orSide] at e1
    have S2 : evS (C ns (d + 3)) s_read_board_2 [some (.p (pt t)), some (.p (.lst [pt x, pt y])), none, none] μ = .exc "BadText" μ := by
      simp only [s_read_board_2, e1, List.length_map, ups_len, downs_len, Int.cast_ofNat_Int, List.take_length, Nat.add_assoc, big, v_ix0, v_ix1, v_ix2, v_ix3, v_il0, v_il1, v_in0, v_in1, v_in2, v_tg2, v_sum_ti, v_sum_li, v_len_ti, v_eq_nil, v_ne_nil, v_eq_sd, v_ne_sd, tx_inj, v_in_li, v_eq_li, v_ne_li, v_eq_bd, v_ne_bd, eq_self, and_self, or_self, Int.reduceAdd, Int.reduceSub, Int.reduceMul, Int.reduceNeg, Int.reduceLT, Int.reduceLE, Int.reduceEq, Int.reduceNe, Nat.reduceLeDiff, Nat.reduceLT, decide_true, decide_false, Bool.not_not, ite_true, ite_false, Bool.true_eq_false, Bool.false_eq_true, Bool.and_true, Bool.true_and, Bool.and_false, Bool.false_and, Bool.or_true, Bool.true_or, Bool.or_false, Bool.false_or, Bool.false_eq_true, if_false, if_true, reduceIte, List.getElem?_cons_zero, List.getElem?_cons_succ, List.set_cons_zero, List.set_cons_succ, List.map_cons, List.map_nil, List.length_cons, List.length_nil, List.cons_append, List.nil_append, List.replicate_succ, List.replicate_zero, Nat.reduceAdd, Nat.reduceSub, Bool.not_true, Bool.not_false, decide_true, decide_false, Option.map_some, List.take_succ_cons, List.take_zero, v_g0, v_gk, v_s0, v_sk, v_tk, cl_isx, cl_sub, List.append_assoc, List.length_append, evSs, evS, evE, evAs, evFs, evIs, evB, evO, evIf, cl_scr, Out.bind_ok, Out.bind_exc, Out.bind_bad, R.wipe, v_onP_p, v_onP_n, v_onP_o, v_onP_f, v_int, v_bl, v_str, v_data, v_seq, v_obj, v_ix, v_of, v_retT, v_retT_b, v_retT_s, v_retT_l, v_retB, v_retB_b, v_add, v_sub, v_mul, v_mod, v_fdiv, v_pow, v_addl, v_addt, v_adds, v_mull, v_mult, v_lt, v_le, v_gt, v_ge, v_eq, v_ne, v_eqs, v_nes, v_isN, v_isNN, v_ltt, v_binR, v_frz_p, v_frz_n, v_pop_p, v_pop_n, v_sto_p, v_sto_n, v_sto_t, v_sto_o, v_lst, v_tup, v_lenR, v_len_s, v_bi_p, v_bi_n, v_bi_o, v_len_l, v_len_t, v_sum_l, v_sum_t, v_all, v_any, v_min_t, v_max_t, v_min_l, v_max_l, v_list_l, v_list_t, v_tuple_l, v_tuple_t, v_idx_t, v_idx_l, v_idx_n, v_idx_o, v_idx_s, v_tg1, v_app, v_seti, v_thn_n, v_thn_r, v_okB, v_noexc, v_arg_p, v_arg_n, v_arg_o, v_arg_s]
    rw [fn_exc (f := f_read_board) (ρ := [some (.p (pt t)), none, none, none]) rfl rfl ((ss_next S0).trans ((ss_next S1).trans (ss_exc S2))), List.take_length]
    rfl
  | some a =>
    rw [hx] at e1
    simp only [orSide] at e1
    cases hy : readS y with
    | none =>
      rw [hy] at e2
      simp only [orSide] at e2
      have S2 : evS (C ns (d + 3)) s_read_board_2 [some (.p (pt t)), some (.p (.lst [pt x, pt y])), none, none] μ = .exc "BadText" μ := by
        simp only [s_read_board_2, e1, e2, List.length_map, ups_len, downs_len, Int.cast_ofNat_Int, List.take_length, Nat.add_assoc, big, v_ix0, v_ix1, v_ix2, v_ix3, v_il0, v_il1, v_in0, v_in1, v_in2, v_tg2, v_sum_ti, v_sum_li, v_len_ti, v_eq_nil, v_ne_nil, v_eq_sd, v_ne_sd, tx_inj, v_in_li, v_eq_li, v_ne_li, v_eq_bd, v_ne_bd, eq_self, and_self, or_self, Int.reduceAdd, Int.reduceSub, Int.reduceMul, Int.reduceNeg, Int.reduceLT, Int.reduceLE, Int.reduceEq, Int.reduceNe, Nat.reduceLeDiff, Nat.reduceLT, decide_true, decide_false, Bool.not_not, ite_true, ite_false, Bool.true_eq_false, Bool.false_eq_true, Bool.and_true, Bool.true_and, Bool.and_false, Bool.false_and, Bool.or_true, Bool.true_or, Bool.or_false, Bool.false_or, Bool.false_eq_true, if_false, if_true, reduceIte, List.getElem?_cons_zero, List.getElem?_cons_succ, List.set_cons_zero, List.set_cons_succ, List.map_cons, List.map_nil, List.length_cons, List.length_nil, List.cons_append, List.nil_append, List.replicate_succ, List.replicate_zero, Nat.reduceAdd, Nat.reduceSub, Bool.not_true, Bool.not_false, decide_true, decide_false, Option.map_some, List.take_succ_cons, List.take_zero, v_g0, v_gk, v_s0, v_sk, v_tk, cl_isx, cl_sub, List.append_assoc, List.length_append, evSs, evS, evE, evAs, evFs, evIs, evB, evO, evIf, cl_scr, Out.bind_ok, Out.bind_exc, Out.bind_bad, R.wipe, v_onP_p, v_onP_n, v_onP_o, v_onP_f, v_int, v_bl, v_str, v_data, v_seq, v_obj, v_ix, v_of, v_retT, v_retT_b, v_retT_s, v_retT_l, v_retB, v_retB_b, v_add, v_sub, v_mul, v_mod, v_fdiv, v_pow, v_addl, v_addt, v_adds, v_mull, v_mult, v_lt, v_le, v_gt, v_ge, v_eq, v_ne, v_eqs, v_nes, v_isN, v_isNN, v_ltt, v_binR, v_frz_p, v_frz_n, v_pop_p, v_pop_n, v_sto_p, v_sto_n, v_sto_t, v_sto_o, v_lst, v_tup, v_lenR, v_len_s, v_bi_p, v_bi_n, v_bi_o, v_len_l, v_len_t, v_sum_l, v_sum_t, v_all, v_any, v_min_t, v_max_t, v_min_l, v_max_l, v_list_l, v_list_t, v_tuple_l, v_tuple_t, v_idx_t, v_idx_l, v_idx_n, v_idx_o, v_idx_s, v_tg1, v_app, v_seti, v_thn_n, v_thn_r, v_okB, v_noexc, v_arg_p, v_arg_n, v_arg_o, v_arg_s]
      rw [fn_exc (f := f_read_board) (ρ := [some (.p (pt t)), none, none, none]) rfl rfl ((ss_next S0).trans ((ss_next S1).trans (ss_exc S2))), List.take_length]
      rfl
    | some b =>
      rw [hy] at e2
      simp only [orSide] at e2
      have la := l1 a hx
      have lb := l2 b hy
      have S2 : evS (C ns (d + 3)) s_read_board_2 [some (.p (pt t)), some (.p (.lst [pt x, pt y])), none, none] μ = .ok (.nx [some (.p (pt t)), some (.p (.lst [pt x, pt y])), some (.p (bd a b)), none]) μ := by
        simp only [s_read_board_2, e1, e2, List.length_map, ups_len, downs_len, Int.cast_ofNat_Int, List.take_length, Nat.add_assoc, big, v_ix0, v_ix1, v_ix2, v_ix3, v_il0, v_il1, v_in0, v_in1, v_in2, v_tg2, v_sum_ti, v_sum_li, v_len_ti, v_eq_nil, v_ne_nil, v_eq_sd, v_ne_sd, tx_inj, v_in_li, v_eq_li, v_ne_li, v_eq_bd, v_ne_bd, eq_self, and_self, or_self, Int.reduceAdd, Int.reduceSub, Int.reduceMul, Int.reduceNeg, Int.reduceLT, Int.reduceLE, Int.reduceEq, Int.reduceNe, Nat.reduceLeDiff, Nat.reduceLT, decide_true, decide_false, Bool.not_not, ite_true, ite_false, Bool.true_eq_false, Bool.false_eq_true, Bool.and_true, Bool.true_and, Bool.and_false, Bool.false_and, Bool.or_true, Bool.true_or, Bool.or_false, Bool.false_or, Bool.false_eq_true, if_false, if_true, reduceIte, List.getElem?_cons_zero, List.getElem?_cons_succ, List.set_cons_zero, List.set_cons_succ, List.map_cons, List.map_nil, List.length_cons, List.length_nil, List.cons_append, List.nil_append, List.replicate_succ, List.replicate_zero, Nat.reduceAdd, Nat.reduceSub, Bool.not_true, Bool.not_false, decide_true, decide_false, Option.map_some, List.take_succ_cons, List.take_zero, v_g0, v_gk, v_s0, v_sk, v_tk, cl_isx, cl_sub, List.append_assoc, List.length_append, evSs, evS, evE, evAs, evFs, evIs, evB, evO, evIf, cl_scr, Out.bind_ok, Out.bind_exc, Out.bind_bad, R.wipe, v_onP_p, v_onP_n, v_onP_o, v_onP_f, v_int, v_bl, v_str, v_data, v_seq, v_obj, v_ix, v_of, v_retT, v_retT_b, v_retT_s, v_retT_l, v_retB, v_retB_b, v_add, v_sub, v_mul, v_mod, v_fdiv, v_pow, v_addl, v_addt, v_adds, v_mull, v_mult, v_lt, v_le, v_gt, v_ge, v_eq, v_ne, v_eqs, v_nes, v_isN, v_isNN, v_ltt, v_binR, v_frz_p, v_frz_n, v_pop_p, v_pop_n, v_sto_p, v_sto_n, v_sto_t, v_sto_o, v_lst, v_tup, v_lenR, v_len_s, v_bi_p, v_bi_n, v_bi_o, v_len_l, v_len_t, v_sum_l, v_sum_t, v_all, v_any, v_min_t, v_max_t, v_min_l, v_max_l, v_list_l, v_list_t, v_tuple_l, v_tuple_t, v_idx_t, v_idx_l, v_idx_n, v_idx_o, v_idx_s, v_tg1, v_app, v_seti, v_thn_n, v_thn_r, v_okB, v_noexc, v_arg_p, v_arg_n, v_arg_o, v_arg_s]
      have S3 : evS (C ns (d + 3)) s_read_board_3 [some (.p (pt t)), some (.p (.lst [pt x, pt y])), some (.p (bd a b)), none] μ = .ok (.nx [some (.p (pt t)), some (.p (.lst [pt x, pt y])), some (.p (bd a b)), some (.p (.bl true))]) μ := by
        simp only [s_read_board_3, List.length_map, ups_len, downs_len, Int.cast_ofNat_Int, List.take_length, Nat.add_assoc, big, v_ix0, v_ix1, v_ix2, v_ix3, v_il0, v_il1, v_in0, v_in1, v_in2, v_tg2, v_sum_ti, v_sum_li, v_len_ti, v_eq_nil, v_ne_nil, v_eq_sd, v_ne_sd, tx_inj, v_in_li, v_eq_li, v_ne_li, v_eq_bd, v_ne_bd, eq_self, and_self, or_self, Int.reduceAdd, Int.reduceSub, Int.reduceMul, Int.reduceNeg, Int.reduceLT, Int.reduceLE, Int.reduceEq, Int.reduceNe, Nat.reduceLeDiff, Nat.reduceLT, decide_true, decide_false, Bool.not_not, ite_true, ite_false, Bool.true_eq_false, Bool.false_eq_true, Bool.and_true, Bool.true_and, Bool.and_false, Bool.false_and, Bool.or_true, Bool.true_or, Bool.or_false, Bool.false_or, Bool.false_eq_true, if_false, if_true, reduceIte, List.getElem?_cons_zero, List.getElem?_cons_succ, List.set_cons_zero, List.set_cons_succ, List.map_cons, List.map_nil, List.length_cons, List.length_nil, List.cons_append, List.nil_append, List.replicate_succ, List.replicate_zero, Nat.reduceAdd, Nat.reduceSub, Bool.not_true, Bool.not_false, decide_true, decide_false, Option.map_some, List.take_succ_cons, List.take_zero, v_g0, v_gk, v_s0, v_sk, v_tk, cl_isx, cl_sub, List.append_assoc, List.length_append, evSs, evS, evE, evAs, evFs, evIs, evB, evO, evIf, cl_scr, Out.bind_ok, Out.bind_exc, Out.bind_bad, R.wipe, v_onP_p, v_onP_n, v_onP_o, v_onP_f, v_int, v_bl, v_str, v_data, v_seq, v_obj, v_ix, v_of, v_retT, v_retT_b, v_retT_s, v_retT_l, v_retB, v_retB_b, v_add, v_sub, v_mul, v_mod, v_fdiv, v_pow, v_addl, v_addt, v_adds, v_mull, v_mult, v_lt, v_le, v_gt, v_ge, v_eq, v_ne, v_eqs, v_nes, v_isN, v_isNN, v_ltt, v_binR, v_frz_p, v_frz_n, v_pop_p, v_pop_n, v_sto_p, v_sto_n, v_sto_t, v_sto_o, v_lst, v_tup, v_lenR, v_len_s, v_bi_p, v_bi_n, v_bi_o, v_len_l, v_len_t, v_sum_l, v_sum_t, v_all, v_any, v_min_t, v_max_t, v_min_l, v_max_l, v_list_l, v_list_t, v_tuple_l, v_tuple_t, v_idx_t, v_idx_l, v_idx_n, v_idx_o, v_idx_s, v_tg1, v_app, v_seti, v_thn_n, v_thn_r, v_okB, v_noexc, v_arg_p, v_arg_n, v_arg_o, v_arg_s]
      cases hB : isBoard a b with
      | true =>
        have e := fn_look_ok ns (d + 1) hB μ
        have S4 : evS (C ns (d + 3)) s_read_board_4 [some (.p (pt t)), some (.p (.lst [pt x, pt y])), some (.p (bd a b)), some (.p (.bl true))] μ = .ok (.nx [some (.p (pt t)), some (.p (.lst [pt x, pt y])), some (.p (bd a b)), some (.p (.bl true))]) μ := by
          simp only [s_read_board_4, s_read_board_4_0, e, List.length_map, ups_len, downs_len, Int.cast_ofNat_Int, List.take_length, Nat.add_assoc, big, v_ix0, v_ix1, v_ix2, v_ix3, v_il0, v_il1, v_in0, v_in1, v_in2, v_tg2, v_sum_ti, v_sum_li, v_len_ti, v_eq_nil, v_ne_nil, v_eq_sd, v_ne_sd, tx_inj, v_in_li, v_eq_li, v_ne_li, v_eq_bd, v_ne_bd, eq_self, and_self, or_self, Int.reduceAdd, Int.reduceSub, Int.reduceMul, Int.reduceNeg, Int.reduceLT, Int.reduceLE, Int.reduceEq, Int.reduceNe, Nat.reduceLeDiff, Nat.reduceLT, decide_true, decide_false, Bool.not_not, ite_true, ite_false, Bool.true_eq_false, Bool.false_eq_true, Bool.and_true, Bool.true_and, Bool.and_false, Bool.false_and, Bool.or_true, Bool.true_or, Bool.or_false, Bool.false_or, Bool.false_eq_true, if_false, if_true, reduceIte, List.getElem?_cons_zero, List.getElem?_cons_succ, List.set_cons_zero, List.set_cons_succ, List.map_cons, List.map_nil, List.length_cons, List.length_nil, List.cons_append, List.nil_append, List.replicate_succ, List.replicate_zero, Nat.reduceAdd, Nat.reduceSub, Bool.not_true, Bool.not_false, decide_true, decide_false, Option.map_some, List.take_succ_cons, List.take_zero, v_g0, v_gk, v_s0, v_sk, v_tk, cl_isx, cl_sub, List.append_assoc, List.length_append, evSs, evS, evE, evAs, evFs, evIs, evB, evO, evIf, cl_scr, Out.bind_ok, Out.bind_exc, Out.bind_bad, R.wipe, v_onP_p, v_onP_n, v_onP_o, v_onP_f, v_int, v_bl, v_str, v_data, v_seq, v_obj, v_ix, v_of, v_retT, v_retT_b, v_retT_s, v_retT_l, v_retB, v_retB_b, v_add, v_sub, v_mul, v_mod, v_fdiv, v_pow, v_addl, v_addt, v_adds, v_mull, v_mult, v_lt, v_le, v_gt, v_ge, v_eq, v_ne, v_eqs, v_nes, v_isN, v_isNN, v_ltt, v_binR, v_frz_p, v_frz_n, v_pop_p, v_pop_n, v_sto_p, v_sto_n, v_sto_t, v_sto_o, v_lst, v_tup, v_lenR, v_len_s, v_bi_p, v_bi_n, v_bi_o, v_len_l, v_len_t, v_sum_l, v_sum_t, v_all, v_any, v_min_t, v_max_t, v_min_l, v_max_l, v_list_l, v_list_t, v_tuple_l, v_tuple_t, v_idx_t, v_idx_l, v_idx_n, v_idx_o, v_idx_s, v_tg1, v_app, v_seti, v_thn_n, v_thn_r, v_okB, v_noexc, v_arg_p, v_arg_n, v_arg_o, v_arg_s]
        have S5 : evS (C ns (d + 3)) s_read_board_5 [some (.p (pt t)), some (.p (.lst [pt x, pt y])), some (.p (bd a b)), some (.p (.bl true))] μ = .ok (.nx [some (.p (pt t)), some (.p (.lst [pt x, pt y])), some (.p (bd a b)), some (.p (.bl true))]) μ := by
          simp only [s_read_board_5, List.length_map, ups_len, downs_len, Int.cast_ofNat_Int, List.take_length, Nat.add_assoc, big, v_ix0, v_ix1, v_ix2, v_ix3, v_il0, v_il1, v_in0, v_in1, v_in2, v_tg2, v_sum_ti, v_sum_li, v_len_ti, v_eq_nil, v_ne_nil, v_eq_sd, v_ne_sd, tx_inj, v_in_li, v_eq_li, v_ne_li, v_eq_bd, v_ne_bd, eq_self, and_self, or_self, Int.reduceAdd, Int.reduceSub, Int.reduceMul, Int.reduceNeg, Int.reduceLT, Int.reduceLE, Int.reduceEq, Int.reduceNe, Nat.reduceLeDiff, Nat.reduceLT, decide_true, decide_false, Bool.not_not, ite_true, ite_false, Bool.true_eq_false, Bool.false_eq_true, Bool.and_true, Bool.true_and, Bool.and_false, Bool.false_and, Bool.or_true, Bool.true_or, Bool.or_false, Bool.false_or, Bool.false_eq_true, if_false, if_true, reduceIte, List.getElem?_cons_zero, List.getElem?_cons_succ, List.set_cons_zero, List.set_cons_succ, List.map_cons, List.map_nil, List.length_cons, List.length_nil, List.cons_append, List.nil_append, List.replicate_succ, List.replicate_zero, Nat.reduceAdd, Nat.reduceSub, Bool.not_true, Bool.not_false, decide_true, decide_false, Option.map_some, List.take_succ_cons, List.take_zero, v_g0, v_gk, v_s0, v_sk, v_tk, cl_isx, cl_sub, List.append_assoc, List.length_append, evSs, evS, evE, evAs, evFs, evIs, evB, evO, evIf, cl_scr, Out.bind_ok, Out.bind_exc, Out.bind_bad, R.wipe, v_onP_p, v_onP_n, v_onP_o, v_onP_f, v_int, v_bl, v_str, v_data, v_seq, v_obj, v_ix, v_of, v_retT, v_retT_b, v_retT_s, v_retT_l, v_retB, v_retB_b, v_add, v_sub, v_mul, v_mod, v_fdiv, v_pow, v_addl, v_addt, v_adds, v_mull, v_mult, v_lt, v_le, v_gt, v_ge, v_eq, v_ne, v_eqs, v_nes, v_isN, v_isNN, v_ltt, v_binR, v_frz_p, v_frz_n, v_pop_p, v_pop_n, v_sto_p, v_sto_n, v_sto_t, v_sto_o, v_lst, v_tup, v_lenR, v_len_s, v_bi_p, v_bi_n, v_bi_o, v_len_l, v_len_t, v_sum_l, v_sum_t, v_all, v_any, v_min_t, v_max_t, v_min_l, v_max_l, v_list_l, v_list_t, v_tuple_l, v_tuple_t, v_idx_t, v_idx_l, v_idx_n, v_idx_o, v_idx_s, v_tg1, v_app, v_seti, v_thn_n, v_thn_r, v_okB, v_noexc, v_arg_p, v_arg_n, v_arg_o, v_arg_s]
        have S6 : evS (C ns (d + 3)) s_read_board_6 [some (.p (pt t)), some (.p (.lst [pt x, pt y])), some (.p (bd a b)), some (.p (.bl true))] μ = .ok (.rt (.p (bd a b))) μ := by
          simp only [s_read_board_6, List.length_map, ups_len, downs_len, Int.cast_ofNat_Int, List.take_length, Nat.add_assoc, big, v_ix0, v_ix1, v_ix2, v_ix3, v_il0, v_il1, v_in0, v_in1, v_in2, v_tg2, v_sum_ti, v_sum_li, v_len_ti, v_eq_nil, v_ne_nil, v_eq_sd, v_ne_sd, tx_inj, v_in_li, v_eq_li, v_ne_li, v_eq_bd, v_ne_bd, eq_self, and_self, or_self, Int.reduceAdd, Int.reduceSub, Int.reduceMul, Int.reduceNeg, Int.reduceLT, Int.reduceLE, Int.reduceEq, Int.reduceNe, Nat.reduceLeDiff, Nat.reduceLT, decide_true, decide_false, Bool.not_not, ite_true, ite_false, Bool.true_eq_false, Bool.false_eq_true, Bool.and_true, Bool.true_and, Bool.and_false, Bool.false_and, Bool.or_true, Bool.true_or, Bool.or_false, Bool.false_or, Bool.false_eq_true, if_false, if_true, reduceIte, List.getElem?_cons_zero, List.getElem?_cons_succ, List.set_cons_zero, List.set_cons_succ, List.map_cons, List.map_nil, List.length_cons, List.length_nil, List.cons_append, List.nil_append, List.replicate_succ, List.replicate_zero, Nat.reduceAdd, Nat.reduceSub, Bool.not_true, Bool.not_false, decide_true, decide_false, Option.map_some, List.take_succ_cons, List.take_zero, v_g0, v_gk, v_s0, v_sk, v_tk, cl_isx, cl_sub, List.append_assoc, List.length_append, evSs, evS, evE, evAs, evFs, evIs, evB, evO, evIf, cl_scr, Out.bind_ok, Out.bind_exc, Out.bind_bad, R.wipe, v_onP_p, v_onP_n, v_onP_o, v_onP_f, v_int, v_bl, v_str, v_data, v_seq, v_obj, v_ix, v_of, v_retT, v_retT_b, v_retT_s, v_retT_l, v_retB, v_retB_b, v_add, v_sub, v_mul, v_mod, v_fdiv, v_pow, v_addl, v_addt, v_adds, v_mull, v_mult, v_lt, v_le, v_gt, v_ge, v_eq, v_ne, v_eqs, v_nes, v_isN, v_isNN, v_ltt, v_binR, v_frz_p, v_frz_n, v_pop_p, v_pop_n, v_sto_p, v_sto_n, v_sto_t, v_sto_o, v_lst, v_tup, v_lenR, v_len_s, v_bi_p, v_bi_n, v_bi_o, v_len_l, v_len_t, v_sum_l, v_sum_t, v_all, v_any, v_min_t, v_max_t, v_min_l, v_max_l, v_list_l, v_list_t, v_tuple_l, v_tuple_t, v_idx_t, v_idx_l, v_idx_n, v_idx_o, v_idx_s, v_tg1, v_app, v_seti, v_thn_n, v_thn_r, v_okB, v_noexc, v_arg_p, v_arg_n, v_arg_o, v_arg_s]
        rw [fn_ret (f := f_read_board) (ρ := [some (.p (pt t)), none, none, none]) rfl rfl ((ss_next S0).trans ((ss_next S1).trans ((ss_next S2).trans ((ss_next S3).trans ((ss_next S4).trans ((ss_next S5).trans (ss_last S6))))))), v_pop_p, List.take_length]
        show _ = orBd (if isBoard a b = true then some (a, b) else none) μ
        rw [if_pos hB]
        rfl
      | false =>
        have e := fn_look_bad ns (d + 1) (by omega) (by omega) hB μ
        have S4 : evS (C ns (d + 3)) s_read_board_4 [some (.p (pt t)), some (.p (.lst [pt x, pt y])), some (.p (bd a b)), some (.p (.bl true))] μ = .ok (.nx [some (.p (pt t)), some (.p (.lst [pt x, pt y])), some (.p (bd a b)), some (.p (.bl false))]) μ := by
          simp only [s_read_board_4, s_read_board_4_0, e, sub_bb, List.length_map, ups_len, downs_len, Int.cast_ofNat_Int, List.take_length, Nat.add_assoc, big, v_ix0, v_ix1, v_ix2, v_ix3, v_il0, v_il1, v_in0, v_in1, v_in2, v_tg2, v_sum_ti, v_sum_li, v_len_ti, v_eq_nil, v_ne_nil, v_eq_sd, v_ne_sd, tx_inj, v_in_li, v_eq_li, v_ne_li, v_eq_bd, v_ne_bd, eq_self, and_self, or_self, Int.reduceAdd, Int.reduceSub, Int.reduceMul, Int.reduceNeg, Int.reduceLT, Int.reduceLE, Int.reduceEq, Int.reduceNe, Nat.reduceLeDiff, Nat.reduceLT, decide_true, decide_false, Bool.not_not, ite_true, ite_false, Bool.true_eq_false, Bool.false_eq_true, Bool.and_true, Bool.true_and, Bool.and_false, Bool.false_and, Bool.or_true, Bool.true_or, Bool.or_false, Bool.false_or, Bool.false_eq_true, if_false, if_true, reduceIte, List.getElem?_cons_zero, List.getElem?_cons_succ, List.set_cons_zero, List.set_cons_succ, List.map_cons, List.map_nil, List.length_cons, List.length_nil, List.cons_append, List.nil_append, List.replicate_succ, List.replicate_zero, Nat.reduceAdd, Nat.reduceSub, Bool.not_true, Bool.not_false, decide_true, decide_false, Option.map_some, List.take_succ_cons, List.take_zero, v_g0, v_gk, v_s0, v_sk, v_tk, cl_isx, cl_sub, List.append_assoc, List.length_append, evSs, evS, evE, evAs, evFs, evIs, evB, evO, evIf, cl_scr, Out.bind_ok, Out.bind_exc, Out.bind_bad, R.wipe, v_onP_p, v_onP_n, v_onP_o, v_onP_f, v_int, v_bl, v_str, v_data, v_seq, v_obj, v_ix, v_of, v_retT, v_retT_b, v_retT_s, v_retT_l, v_retB, v_retB_b, v_add, v_sub, v_mul, v_mod, v_fdiv, v_pow, v_addl, v_addt, v_adds, v_mull, v_mult, v_lt, v_le, v_gt, v_ge, v_eq, v_ne, v_eqs, v_nes, v_isN, v_isNN, v_ltt, v_binR, v_frz_p, v_frz_n, v_pop_p, v_pop_n, v_sto_p, v_sto_n, v_sto_t, v_sto_o, v_lst, v_tup, v_lenR, v_len_s, v_bi_p, v_bi_n, v_bi_o, v_len_l, v_len_t, v_sum_l, v_sum_t, v_all, v_any, v_min_t, v_max_t, v_min_l, v_max_l, v_list_l, v_list_t, v_tuple_l, v_tuple_t, v_idx_t, v_idx_l, v_idx_n, v_idx_o, v_idx_s, v_tg1, v_app, v_seti, v_thn_n, v_thn_r, v_okB, v_noexc, v_arg_p, v_arg_n, v_arg_o, v_arg_s]
        have S5 : evS (C ns (d + 3)) s_read_board_5 [some (.p (pt t)), some (.p (.lst [pt x, pt y])), some (.p (bd a b)), some (.p (.bl false))] μ = .exc "BadText" μ := by
          simp only [s_read_board_5, s_read_board_5a_0, List.length_map, ups_len, downs_len, Int.cast_ofNat_Int, List.take_length, Nat.add_assoc, big, v_ix0, v_ix1, v_ix2, v_ix3, v_il0, v_il1, v_in0, v_in1, v_in2, v_tg2, v_sum_ti, v_sum_li, v_len_ti, v_eq_nil, v_ne_nil, v_eq_sd, v_ne_sd, tx_inj, v_in_li, v_eq_li, v_ne_li, v_eq_bd, v_ne_bd, eq_self, and_self, or_self, Int.reduceAdd, Int.reduceSub, Int.reduceMul, Int.reduceNeg, Int.reduceLT, Int.reduceLE, Int.reduceEq, Int.reduceNe, Nat.reduceLeDiff, Nat.reduceLT, decide_true, decide_false, Bool.not_not, ite_true, ite_false, Bool.true_eq_false, Bool.false_eq_true, Bool.and_true, Bool.true_and, Bool.and_false, Bool.false_and, Bool.or_true, Bool.true_or, Bool.or_false, Bool.false_or, Bool.false_eq_true, if_false, if_true, reduceIte, List.getElem?_cons_zero, List.getElem?_cons_succ, List.set_cons_zero, List.set_cons_succ, List.map_cons, List.map_nil, List.length_cons, List.length_nil, List.cons_append, List.nil_append, List.replicate_succ, List.replicate_zero, Nat.reduceAdd, Nat.reduceSub, Bool.not_true, Bool.not_false, decide_true, decide_false, Option.map_some, List.take_succ_cons, List.take_zero, v_g0, v_gk, v_s0, v_sk, v_tk, cl_isx, cl_sub, List.append_assoc, List.length_append, evSs, evS, evE, evAs, evFs, evIs, evB, evO, evIf, cl_scr, Out.bind_ok, Out.bind_exc, Out.bind_bad, R.wipe, v_onP_p, v_onP_n, v_onP_o, v_onP_f, v_int, v_bl, v_str, v_data, v_seq, v_obj, v_ix, v_of, v_retT, v_retT_b, v_retT_s, v_retT_l, v_retB, v_retB_b, v_add, v_sub, v_mul, v_mod, v_fdiv, v_pow, v_addl, v_addt, v_adds, v_mull, v_mult, v_lt, v_le, v_gt, v_ge, v_eq, v_ne, v_eqs, v_nes, v_isN, v_isNN, v_ltt, v_binR, v_frz_p, v_frz_n, v_pop_p, v_pop_n, v_sto_p, v_sto_n, v_sto_t, v_sto_o, v_lst, v_tup, v_lenR, v_len_s, v_bi_p, v_bi_n, v_bi_o, v_len_l, v_len_t, v_sum_l, v_sum_t, v_all, v_any, v_min_t, v_max_t, v_min_l, v_max_l, v_list_l, v_list_t, v_tuple_l, v_tuple_t, v_idx_t, v_idx_l, v_idx_n, v_idx_o, v_idx_s, v_tg1, v_app, v_seti, v_thn_n, v_thn_r, v_okB, v_noexc, v_arg_p, v_arg_n, v_arg_o, v_arg_s]
          try rfl
        rw [fn_exc (f := f_read_board) (ρ := [some (.p (pt t)), none, none, none]) rfl rfl ((ss_next S0).trans ((ss_next S1).trans ((ss_next S2).trans ((ss_next S3).trans ((ss_next S4).trans (ss_exc S5)))))), List.take_length]
        show _ = orBd (if isBoard a b = true then some (a, b) else none) μ
        rw [if_neg (by rw [hB]; exact Bool.false_ne_true)]
        rfl
/-! ### read back -/
theorem c_notin_word {a : List Int} {p : Int} {c : Nat} (h : c = 32 ∨ c = 124) : c ∉ wordC a p := by
  unfold wordC
  simp only [List.mem_append, List.mem_singleton, not_or]
  refine ⟨⟨plC_free (by omega), by omega⟩, TL.numL_free (by omega)⟩
theorem split_wordC {a : List Int} {p : Int} : TL.spl [58] 0 [] (wordC a p) = [plC p, TL.numL (gi a p).toNat] := by
  unfold wordC
  exact spl_word (plC_free (by omega)) (TL.numL_free (by omega))
theorem step_wordC {a : List Int} {p : Int} (x : List Int) (last : Int) (hp : 0 ≤ p ∧ p ≤ 25) (hl : p < last) (hv : 1 ≤ gi a p ∧ gi a p ≤ 15) : sideStep (x, last) (wordC a p) = some (si x p (gi a p), p) := by
  have hn := numIn_back (v := (gi a p).toNat) (m := 15) (by omega) (by omega) (by omega)
  rw [Int.toNat_of_nonneg (by omega)] at hn
  unfold sideStep
  rw [split_wordC]
  simp only
  rw [placeIn_b hp]
  simp only
  rw [if_pos hl, hn]
theorem fold_words {a : List Int} : ∀ (l : List Int) (x : List Int) (last : Int), l.Pairwise (· > ·) → (∀ p ∈ l, (0 ≤ p ∧ p ≤ 25) ∧ p < last ∧ 1 ≤ gi a p ∧ gi a p ≤ 15) → ∃ last', (l.map (wordC a)).foldlM sideStep (x, last) = some (l.foldl (fun x p => si x p (gi a p)) x, last')
  | [], x, last, _, _ => ⟨last, rfl⟩
  | p :: l, x, last, hp, h => by
    obtain ⟨h1, h2, h3⟩ := h p (by simp)
    obtain ⟨q1, q2⟩ := List.pairwise_cons.mp hp
    obtain ⟨last', ih⟩ := fold_words (a := a) l (si x p (gi a p)) p q2 fun q hq => by
      obtain ⟨a1, a2, a3⟩ := h q (List.mem_cons_of_mem _ hq)
      exact ⟨a1, q1 q hq, a3⟩
    refine ⟨last', ?_⟩
    rw [List.map_cons, List.foldlM_cons, step_wordC x last h1 h2 h3]
    exact ih
theorem fold_len2 {a : List Int} : ∀ (l : List Int) (x : List Int), (l.foldl (fun x p => si x p (gi a p)) x).length = x.length
  | [], _ => rfl
  | p :: l, x => by rw [List.foldl_cons, fold_len2 l, si_len]
theorem fold_gi {a : List Int} {q : Int} (hq : 0 ≤ q) : ∀ (l : List Int) (x : List Int), (∀ p ∈ l, 0 ≤ p ∧ p < x.length) → gi (l.foldl (fun x p => si x p (gi a p)) x) q = if q ∈ l then gi a q else gi x q
  | [], x, _ => by simp
  | p :: l, x, h => by
    obtain ⟨h1, h2⟩ := h p (by simp)
    rw [List.foldl_cons, fold_gi hq l _ fun r hr => by rw [si_len]; exact h r (List.mem_cons_of_mem _ hr)]
    by_cases c : q ∈ l
    · rw [if_pos c, if_pos (List.mem_cons_of_mem _ c)]
    · rw [if_neg c, gi_si h1 h2 hq]
      by_cases e : q = p
      · rw [if_pos e, if_pos (by rw [e]; simp), e]
      · rw [if_neg e, if_neg (by simp [e, c])]
theorem pw_downs {a : Int} {n : Nat} : (downs a n).Pairwise (· > ·) := by
  unfold downs
  have h : (List.range n).Pairwise (· < ·) := List.pairwise_lt_range
  exact List.Pairwise.map (S := (· > ·)) _ (fun i j hij => by show a - (i : Int) > a - j; omega) h
theorem wordsC_ne {a : List Int} (ha : isSide a = true) : wordsC a ≠ [] := by
  intro h
  unfold wordsC at h
  rw [List.map_eq_nil_iff, List.filter_eq_nil_iff] at h
  obtain ⟨l, hn, h1, _⟩ := isSide_iff.mp ha
  have : ∀ x ∈ a, x = 0 := by
    intro x hx
    obtain ⟨p, p1, p2, e⟩ := mem_gi hx
    have := h p (mem_downs.mpr ⟨by omega, by omega⟩)
    have h0 := hn x hx
    simp only [decide_eq_true_eq] at this
    omega
  have key : ∀ l : List Int, (∀ x ∈ l, x = 0) → l.sum = 0 := by
    intro l
    induction l with
    | nil => intro _; rfl
    | cons x l ih =>
      intro hl
      show x + l.sum = 0
      rw [hl x (by simp), ih fun y hy => hl y (List.mem_cons_of_mem _ hy)]
      rfl
  rw [key a this] at h1
  omega
theorem readS_back {a : List Int} (ha : isSide a = true) : readS (sideC a) = some a := by
  obtain ⟨l, hn, _, h15⟩ := isSide_iff.mp ha
  unfold readS sideC
  rw [TL.spl_join (wordsC_ne ha) (fun w hw => by
    obtain ⟨p, _, rfl⟩ := List.mem_map.mp hw
    exact c_notin_word (.inl rfl))]
  have hmem : ∀ p ∈ (downs 25 26).filter fun p => decide (0 < gi a p), (0 ≤ p ∧ p ≤ 25) ∧ p < 26 ∧ 1 ≤ gi a p ∧ gi a p ≤ 15 := fun p hp => by
    obtain ⟨m1, m2⟩ := List.mem_filter.mp hp
    have := mem_downs.mp m1
    have hb := side_b ha (i := p) (by omega) (by omega)
    have := of_decide_eq_true m2
    exact ⟨by omega, by omega, by omega, by omega⟩
  obtain ⟨last, e⟩ := fold_words (a := a) ((downs 25 26).filter fun p => decide (0 < gi a p)) (List.replicate 26 0) 26 (pw_downs.filter _) hmem
  unfold wordsC
  rw [e]
  simp only [Option.map_some, Option.some.injEq]
  refine gi_ext (n := 26) (by rw [fold_len2, List.length_replicate]) l fun q q0 q1 => ?_
  rw [fold_gi q0 _ _ fun p hp => by have := hmem p hp; rw [List.length_replicate]; omega]
  have hz : gi (List.replicate 26 (0 : Int)) q = 0 := List.eq_of_mem_replicate (gi_mem (by rw [List.length_replicate]; exact q1) q0)
  have hb := side_b ha (i := q) q0 q1
  split
  · rfl
  · rename_i hne
    rw [hz]
    have : ¬ 0 < gi a q := fun h => hne (List.mem_filter.mpr ⟨mem_downs.mpr ⟨by omega, by omega⟩, decide_eq_true h⟩)
    omega
theorem joinL_free {c : Nat} {s : List Nat} (hs : c ∉ s) : ∀ ys : List (List Nat), (∀ y ∈ ys, c ∉ y) → c ∉ TL.joinL s ys
  | [], _ => by simp [TL.joinL]
  | [y], h => h y (by simp)
  | y :: z :: r, h => by
    have ih := joinL_free hs (z :: r) fun w hw => h w (List.mem_cons_of_mem _ hw)
    show c ∉ y ++ (s ++ TL.joinL s (z :: r))
    simp only [List.mem_append, not_or]
    exact ⟨h y (by simp), hs, ih⟩
theorem sideC_free (a : List Int) : 124 ∉ sideC a := joinL_free (by simp) _ fun w hw => by
  obtain ⟨p, _, rfl⟩ := List.mem_map.mp hw
  exact c_notin_word (.inr rfl)
theorem spl_boardC (b : Bd) : TL.spl sepC 0 [] (boardC b) = [sideC b.1, sideC b.2] := spl_two (sideC_free _) (sideC_free _)
theorem readB_back {b : Bd} (h : isBoard b.1 b.2 = true) : readB (boardC b) = some b := by
  obtain ⟨h1, h2, _⟩ := isBoard_iff.mp h
  unfold readB
  rw [spl_boardC]
  simp only
  rw [readS_back h1, readS_back h2]
  simp only
  rw [if_pos h]

end R
namespace R
open PySem
/-! ### what is read is the text of what it is read as -/
theorem split_form {w p m : List Nat} (h : TL.spl [58] 0 [] w = [p, m]) : w = p ++ [58] ++ m := by
  have := join_spl (S := [58]) (by simp) w
  rw [h] at this
  rw [← this]
  show p ++ ([58] ++ m) = _
  rw [List.append_assoc]
theorem fold_form : ∀ (ws : List (List Nat)) (x : List Int) (last : Int) (s : List Int × Int), ws.foldlM sideStep (x, last) = some s →
    ∃ l : List (Int × Int), ws = l.map (fun e => plC e.1 ++ [58] ++ TL.numL e.2.toNat) ∧ (l.map Prod.fst).Pairwise (· > ·) ∧ (∀ e ∈ l, (0 ≤ e.1 ∧ e.1 ≤ 25) ∧ e.1 < last ∧ 1 ≤ e.2 ∧ e.2 ≤ 15) ∧ s.1 = l.foldl (fun x e => si x e.1 e.2) x
  | [], x, last, s, h => by
    cases h
    exact ⟨[], rfl, List.Pairwise.nil, by simp, rfl⟩
  | w :: ws, x, last, s, h => by
    rw [List.foldlM_cons] at h
    cases hs : sideStep (x, last) w with
    | none => rw [hs] at h; exact absurd h (by simp)
    | some s1 =>
      rw [hs] at h
      unfold sideStep at hs
      split at hs
      · rename_i p m hspl
        split at hs
        · rename_i q hq
          split at hs
          · rename_i hlt
            split at hs
            · rename_i v hv
              cases hs
              obtain ⟨e1, q0, q1⟩ := placeIn_text hq
              obtain ⟨e2, v0, v1, _⟩ := numIn_text hv
              obtain ⟨l, hl, hp, hb, hr⟩ := fold_form ws (si x q v) q s h
              refine ⟨(q, v) :: l, ?_, ?_, ?_, hr⟩
              · rw [List.map_cons, ← hl, split_form hspl, e1, e2]
              · rw [List.map_cons, List.pairwise_cons]
                refine ⟨fun r hr' => ?_, hp⟩
                obtain ⟨e, he, rfl⟩ := List.mem_map.mp hr'
                exact (hb e he).2.1
              · intro e he
                rcases List.mem_cons.mp he with rfl | he
                · exact ⟨⟨q0, q1⟩, hlt, v0, v1⟩
                · obtain ⟨a1, a2, a3⟩ := hb e he
                  have hlt' : q < last := hlt
                  exact ⟨a1, by omega, a3⟩
            · exact absurd hs (by simp)
          · exact absurd hs (by simp)
        · exact absurd hs (by simp)
      · exact absurd hs (by simp)
theorem foldE_gi {q : Int} (hq : 0 ≤ q) : ∀ (l : List (Int × Int)) (x : List Int), (l.map Prod.fst).Pairwise (· > ·) → (∀ e ∈ l, 0 ≤ e.1 ∧ e.1 < x.length) → (∀ v, (q, v) ∈ l → gi (l.foldl (fun x e => si x e.1 e.2) x) q = v) ∧ ((∀ v, (q, v) ∉ l) → gi (l.foldl (fun x e => si x e.1 e.2) x) q = gi x q)
  | [], x, _, _ => ⟨fun v h => absurd h (by simp), fun _ => rfl⟩
  | e :: l, x, hp, h => by
    obtain ⟨h1, h2⟩ := h e (by simp)
    rw [List.map_cons, List.pairwise_cons] at hp
    obtain ⟨i1, i2⟩ := foldE_gi hq l (si x e.1 e.2) hp.2 fun f hf => by rw [si_len]; exact h f (List.mem_cons_of_mem _ hf)
    rw [List.foldl_cons]
    refine ⟨fun v hv => ?_, fun hv => ?_⟩
    · rcases List.mem_cons.mp hv with rfl | hv
      · rw [i2 fun v' hv' => by
          have := hp.1 q (List.mem_map.mpr ⟨_, hv', rfl⟩)
          simp at this, gi_si h1 h2 hq, if_pos rfl]
      · exact i1 v hv
    · rw [i2 fun v' hv' => hv v' (List.mem_cons_of_mem _ hv'), gi_si h1 h2 hq, if_neg]
      intro e0
      exact hv e.2 (by rw [e0]; simp)
theorem desc_eq : ∀ (xs ys : List Int), xs.Pairwise (· > ·) → ys.Pairwise (· > ·) → (∀ z, z ∈ xs ↔ z ∈ ys) → xs = ys
  | [], [], _, _, _ => rfl
  | [], y :: ys, _, _, h => absurd ((h y).mpr (by simp)) (by simp)
  | x :: xs, [], _, _, h => absurd ((h x).mp (by simp)) (by simp)
  | x :: xs, y :: ys, hx, hy, h => by
    obtain ⟨x1, x2⟩ := List.pairwise_cons.mp hx
    obtain ⟨y1, y2⟩ := List.pairwise_cons.mp hy
    have e : x = y := by
      rcases List.mem_cons.mp ((h x).mp (by simp)) with e | hx'
      · exact e
      · rcases List.mem_cons.mp ((h y).mpr (by simp)) with e | hy'
        · exact e.symm
        · have := y1 x hx'
          have := x1 y hy'
          omega
    subst e
    rw [desc_eq xs ys x2 y2 fun z => ?_]
    constructor
    · intro hz
      rcases List.mem_cons.mp ((h z).mp (List.mem_cons_of_mem _ hz)) with e | hz'
      · have := x1 z hz; omega
      · exact hz'
    · intro hz
      rcases List.mem_cons.mp ((h z).mpr (List.mem_cons_of_mem _ hz)) with e | hz'
      · have := y1 z hz; omega
      · exact hz'
theorem readS_text {t : List Nat} {a : List Int} (h : readS t = some a) : sideC a = t := by
  unfold readS at h
  cases hf : (TL.spl [32] 0 [] t).foldlM sideStep (List.replicate 26 0, 26) with
  | none => rw [hf] at h; exact absurd h (by simp)
  | some s =>
    rw [hf] at h
    simp only [Option.map_some, Option.some.injEq] at h
    obtain ⟨l, hl, hp, hb, hr⟩ := fold_form _ _ _ _ hf
    rw [h] at hr
    have hb' : ∀ e ∈ l, 0 ≤ e.1 ∧ e.1 < (List.replicate 26 (0 : Int)).length := fun e he => by
      have := (hb e he).1
      rw [List.length_replicate]
      omega
    have hg : ∀ q : Int, 0 ≤ q → (∀ v, (q, v) ∈ l → gi a q = v) ∧ ((∀ v, (q, v) ∉ l) → q < 26 → gi a q = 0) := fun q hq => by
      obtain ⟨i1, i2⟩ := foldE_gi hq l (List.replicate 26 0) hp hb'
      rw [← hr] at i1 i2
      refine ⟨i1, fun hv h26 => ?_⟩
      rw [i2 hv]
      exact List.eq_of_mem_replicate (gi_mem (by rw [List.length_replicate]; exact h26) hq)
    have hfil : (downs 25 26).filter (fun p => decide (0 < gi a p)) = l.map Prod.fst := by
      refine desc_eq _ _ (pw_downs.filter _) hp fun z => ?_
      rw [List.mem_filter, mem_downs, decide_eq_true_eq, List.mem_map]
      constructor
      · rintro ⟨hz, h0⟩
        apply Classical.byContradiction
        intro hn
        have := (hg z (by omega)).2 (fun v hv => hn ⟨_, hv, rfl⟩) (by omega)
        omega
      · rintro ⟨e, he, rfl⟩
        obtain ⟨a1, a2, a3, a4⟩ := hb e he
        refine ⟨by omega, ?_⟩
        rw [(hg e.1 a1.1).1 e.2 he]
        omega
    unfold sideC wordsC
    rw [hfil, List.map_map]
    have : l.map (wordC a ∘ Prod.fst) = l.map (fun e => plC e.1 ++ [58] ++ TL.numL e.2.toNat) := by
      apply List.map_congr_left
      intro e he
      show wordC a e.1 = _
      unfold wordC
      rw [(hg e.1 (hb e he).1.1).1 e.2 he]
    rw [this, ← hl]
    exact join_spl (by simp) t
theorem readB_text {t : List Nat} {b : Bd} (h : readB t = some b) : boardC b = t ∧ isBoard b.1 b.2 = true := by
  unfold readB at h
  split at h
  · rename_i x y hspl
    split at h
    · rename_i a c ha hc
      split at h
      · rename_i hB
        cases h
        refine ⟨?_, hB⟩
        unfold boardC
        rw [readS_text ha, readS_text hc]
        have := join_spl (S := sepC) (by simp [sepC]) t
        rw [hspl] at this
        rw [← this]
        show x ++ sepC ++ y = x ++ (sepC ++ y)
        rw [List.append_assoc]
      · exact absurd h (by simp)
    · exact absurd h (by simp)
  · exact absurd h (by simp)
/-! ### the law's own reading -/
def lenStep (x : List Int) (w : List Nat) : List Int := match TL.spl [58] 0 [] w with
  | [p, m] => match placeIn p with
    | some q => match numIn m 15 with
      | some v => si x q v
      | none => x
    | none => x
  | _ => x
def lenS (t : List Nat) : List Int := (TL.spl [32] 0 [] t).foldl lenStep (List.replicate 26 0)
theorem lenStep_len (x : List Int) (w : List Nat) : (lenStep x w).length = x.length := by
  unfold lenStep
  split
  · split
    · split
      · exact si_len
      · rfl
    · rfl
  · rfl
theorem lenF_len : ∀ (ws : List (List Nat)) (x : List Int), (ws.foldl lenStep x).length = x.length
  | [], _ => rfl
  | w :: ws, x => by rw [List.foldl_cons, lenF_len ws, lenStep_len]
theorem lenS_len (t : List Nat) : (lenS t).length = 26 := by unfold lenS; rw [lenF_len, List.length_replicate]
theorem len_of_strict : ∀ (ws : List (List Nat)) (x : List Int) (last : Int) (s : List Int × Int), ws.foldlM sideStep (x, last) = some s → ws.foldl lenStep x = s.1
  | [], x, last, s, h => by cases h; rfl
  | w :: ws, x, last, s, h => by
    rw [List.foldlM_cons] at h
    cases hs : sideStep (x, last) w with
    | none => rw [hs] at h; exact absurd h (by simp)
    | some s1 =>
      rw [hs] at h
      have e : lenStep x w = s1.1 := by
        unfold sideStep at hs
        unfold lenStep
        split at hs
        · rename_i p m hspl
          split at hs
          · rename_i q hq
            split at hs
            · split at hs
              · rename_i v hv
                cases hs
                simp only [hspl, hq, hv]
              · exact absurd hs (by simp)
            · exact absurd hs (by simp)
          · exact absurd hs (by simp)
        · exact absurd hs (by simp)
      rw [List.foldl_cons, e]
      exact len_of_strict ws s1.1 s1.2 s h
theorem lenS_back {a : List Int} (ha : isSide a = true) : lenS (sideC a) = a := by
  have h := readS_back ha
  unfold readS at h
  cases hf : (TL.spl [32] 0 [] (sideC a)).foldlM sideStep (List.replicate 26 0, 26) with
  | none => rw [hf] at h; exact absurd h (by simp)
  | some s =>
    rw [hf] at h
    simp only [Option.map_some, Option.some.injEq] at h
    unfold lenS
    rw [len_of_strict _ _ _ _ hf]
    exact h
def lawP (t : List Nat) (l : List (List Nat)) : Option Bd := match l with
  | [x, y] => if isBoard (lenS x) (lenS y) = true ∧ boardC (lenS x, lenS y) = t then some (lenS x, lenS y) else none
  | _ => none
theorem lawP_no {t : List Nat} {l : List (List Nat)} (h : l.length ≠ 2) : lawP t l = none := by
  unfold lawP
  split
  · exact absurd rfl h
  · rfl
theorem lawP_2 (t x y : List Nat) : lawP t [x, y] = if isBoard (lenS x) (lenS y) = true ∧ boardC (lenS x, lenS y) = t then some (lenS x, lenS y) else none := rfl
def lawB (t : List Nat) : Option Bd := lawP t (TL.spl sepC 0 [] t)
theorem lawB_is (t : List Nat) : lawB t = readB t := by
  unfold lawB
  cases hr : readB t with
  | some b =>
    obtain ⟨h1, h2⟩ := readB_text hr
    obtain ⟨s1, s2, _⟩ := isBoard_iff.mp h2
    rw [← h1, spl_boardC, lawP_2, lenS_back s1, lenS_back s2, if_pos ⟨h2, rfl⟩]
  | none =>
    unfold lawP
    split
    · rename_i x y hspl
      split
      · rename_i hc
        have := readB_back (b := (lenS x, lenS y)) hc.1
        rw [hc.2, hr] at this
        exact absurd this (by simp)
      · rfl
    · rfl

end R
namespace R
open PySem
/-! ### the law's own text -/
def namesC : List (List Nat) := (ups 0 26).map plC
theorem names_plain : ∀ x ∈ namesC, plainT x = true := by decide +kernel
theorem ups26 : ups 0 26 = 0 :: (ups 1 24 ++ [25]) := by decide +kernel
theorem names_is : [pt [111, 102, 102]] ++ ((ups 1 24).map fun p => pt (TL.numL p.toNat)) ++ [pt [98, 97, 114]] = namesC.map pt := by
  have hc : ∀ p ∈ ups 1 24, plC p = TL.numL p.toNat := by
    intro p hp
    obtain ⟨p1, p2⟩ := mem_ups.mp hp
    unfold plC
    rw [if_neg (by omega), if_neg (by omega)]
  have hm : ((ups 1 24).map fun p => pt (TL.numL p.toNat)) = ((ups 1 24).map plC).map pt := by
    rw [List.map_map]
    exact List.map_congr_left fun p hp => by show _ = pt (plC p); rw [hc p hp]
  have e : namesC = [111, 102, 102] :: ((ups 1 24).map plC ++ [[98, 97, 114]]) := by
    unfold namesC
    rw [ups26, List.map_cons, List.map_append]
    rfl
  rw [hm, e]
  generalize (ups 1 24).map plC = Q
  rw [List.map_cons, List.map_append]
  rfl
theorem names_at {p : Int} (h : 0 ≤ p ∧ p < 26) : L2.atI (namesC.map pt) p = some (pt (plC p)) := by
  unfold namesC
  rw [List.map_map, at_map, at_gi h.1 (by rw [ups_len]; omega)]
  have : gi (ups 0 26) p = p := by
    unfold gi ups
    rw [List.getD_eq_getElem?_getD, List.getElem?_map, List.getElem?_range (by omega)]
    show (0 : Int) + ((p.toNat : Nat) : Int) = p
    omega
  rw [this]
  rfl
theorem downs_rev : downs 25 26 = (ups 0 26).reverse := by decide +kernel
theorem words_rev (a : List Int) : (((ups 0 26).filter fun p => decide (0 < gi a p)).map (wordC a)).reverse = wordsC a := by
  unfold wordsC
  rw [downs_rev, List.filter_reverse, List.map_reverse]
abbrev xE (b : P) (o : Nat) (x2 x3 x4 : Option Rv) : Env := [some (.p b), some (.o o), x2, x3, x4, none]
theorem text_side (ns : List Int) (d : Nat) (b : P) (μ : Mu) (F : List P) (hF : F.length ≤ 10) {a : List Int} (ha : isSide a = true) (x3 x4 : Option Rv) :
    ∃ x3' x4', evSs (C ns d) [s__law_text_1_0, s__law_text_1_1, s__law_text_1_2] (xE b μ.length (some (.p (sd a))) x3 x4) (μ ++ [.lst F]) = .ok (.nx (xE b μ.length (some (.p (sd a))) x3' x4')) (μ ++ [.lst (F ++ [pt (sideC a)])]) := by
  have la := (isSide_iff.mp ha).1
  have n1 : binP .Add (.lst [pt [111, 102, 102]]) (.lst ((ups 1 24).map fun p => pt (TL.numL p.toNat))) = some (.n (pt [111, 102, 102] :: ((ups 1 24).map fun p => pt (TL.numL p.toNat)))) := v_addl (by rw [List.length_map, ups_len]; decide)
  have n2 : binP .Add (.lst (pt [111, 102, 102] :: ((ups 1 24).map fun p => pt (TL.numL p.toNat)))) (.lst [pt [98, 97, 114]]) = some (.n (namesC.map pt)) := by
    rw [v_addl (by rw [List.length_cons, List.length_map, ups_len]; decide), ← names_is]; rfl
  have S0 : evS (C ns d) s__law_text_1_0 (xE b μ.length (some (.p (sd a))) x3 x4) (μ ++ [.lst F]) = .ok (.nx (xE b μ.length (some (.p (sd a))) (some (.p (.lst (namesC.map pt)))) x4)) (μ ++ [.lst F]) := by
    simp only [s__law_text_1_0, l_off, l_bar, rng_1_25, List.length_map, ups_len, downs_len, Int.cast_ofNat_Int, List.take_length, Nat.add_assoc, big, v_ix0, v_ix1, v_ix2, v_ix3, v_il0, v_il1, v_in0, v_in1, v_in2, v_tg2, v_sum_ti, v_sum_li, v_len_ti, v_eq_nil, v_ne_nil, v_eq_sd, v_ne_sd, tx_inj, v_in_li, v_eq_li, v_ne_li, v_eq_bd, v_ne_bd, eq_self, and_self, or_self, Int.reduceAdd, Int.reduceSub, Int.reduceMul, Int.reduceNeg, Int.reduceLT, Int.reduceLE, Int.reduceEq, Int.reduceNe, Nat.reduceLeDiff, Nat.reduceLT, decide_true, decide_false, Bool.not_not, ite_true, ite_false, Bool.true_eq_false, Bool.false_eq_true, Bool.and_true, Bool.true_and, Bool.and_false, Bool.false_and, Bool.or_true, Bool.true_or, Bool.or_false, Bool.false_or, Bool.false_eq_true, if_false, if_true, reduceIte, List.getElem?_cons_zero, List.getElem?_cons_succ, List.set_cons_zero, List.set_cons_succ, List.map_cons, List.map_nil, List.length_cons, List.length_nil, List.cons_append, List.nil_append, List.replicate_succ, List.replicate_zero, Nat.reduceAdd, Nat.reduceSub, Bool.not_true, Bool.not_false, decide_true, decide_false, Option.map_some, List.take_succ_cons, List.take_zero, v_g0, v_gk, v_s0, v_sk, v_tk, cl_isx, cl_sub, List.append_assoc, List.length_append, evSs, evS, evE, evAs, evFs, evIs, evB, evO, evIf, cl_scr, Out.bind_ok, Out.bind_exc, Out.bind_bad, R.wipe, v_onP_p, v_onP_n, v_onP_o, v_onP_f, v_int, v_bl, v_str, v_data, v_seq, v_obj, v_ix, v_of, v_retT, v_retT_b, v_retT_s, v_retT_l, v_retB, v_retB_b, v_add, v_sub, v_mul, v_mod, v_fdiv, v_pow, v_addl, v_addt, v_adds, v_mull, v_mult, v_lt, v_le, v_gt, v_ge, v_eq, v_ne, v_eqs, v_nes, v_isN, v_isNN, v_ltt, v_binR, v_frz_p, v_frz_n, v_pop_p, v_pop_n, v_sto_p, v_sto_n, v_sto_t, v_sto_o, v_lst, v_tup, v_lenR, v_len_s, v_bi_p, v_bi_n, v_bi_o, v_len_l, v_len_t, v_sum_l, v_sum_t, v_all, v_any, v_min_t, v_max_t, v_min_l, v_max_l, v_list_l, v_list_t, v_tuple_l, v_tuple_t, v_idx_t, v_idx_l, v_idx_n, v_idx_o, v_idx_s, v_tg1, v_app, v_seti, v_thn_n, v_thn_r, v_okB, v_noexc, v_arg_p, v_arg_n, v_arg_o, v_arg_s]
    rw [compL_int (f := fun p => pt (TL.numL p.toNat)) ?hh]
    case hh =>
      intro p hp
      obtain ⟨p1, p2⟩ := mem_ups.mp hp
      simp only [v_strint (i := p) (by omega) (by omega), List.length_map, ups_len, downs_len, Int.cast_ofNat_Int, List.take_length, Nat.add_assoc, big, v_ix0, v_ix1, v_ix2, v_ix3, v_il0, v_il1, v_in0, v_in1, v_in2, v_tg2, v_sum_ti, v_sum_li, v_len_ti, v_eq_nil, v_ne_nil, v_eq_sd, v_ne_sd, tx_inj, v_in_li, v_eq_li, v_ne_li, v_eq_bd, v_ne_bd, eq_self, and_self, or_self, Int.reduceAdd, Int.reduceSub, Int.reduceMul, Int.reduceNeg, Int.reduceLT, Int.reduceLE, Int.reduceEq, Int.reduceNe, Nat.reduceLeDiff, Nat.reduceLT, decide_true, decide_false, Bool.not_not, ite_true, ite_false, Bool.true_eq_false, Bool.false_eq_true, Bool.and_true, Bool.true_and, Bool.and_false, Bool.false_and, Bool.or_true, Bool.true_or, Bool.or_false, Bool.false_or, Bool.false_eq_true, if_false, if_true, reduceIte, List.getElem?_cons_zero, List.getElem?_cons_succ, List.set_cons_zero, List.set_cons_succ, List.map_cons, List.map_nil, List.length_cons, List.length_nil, List.cons_append, List.nil_append, List.replicate_succ, List.replicate_zero, Nat.reduceAdd, Nat.reduceSub, Bool.not_true, Bool.not_false, decide_true, decide_false, Option.map_some, List.take_succ_cons, List.take_zero, v_g0, v_gk, v_s0, v_sk, v_tk, cl_isx, cl_sub, List.append_assoc, List.length_append, evSs, evS, evE, evAs, evFs, evIs, evB, evO, evIf, cl_scr, Out.bind_ok, Out.bind_exc, Out.bind_bad, R.wipe, v_onP_p, v_onP_n, v_onP_o, v_onP_f, v_int, v_bl, v_str, v_data, v_seq, v_obj, v_ix, v_of, v_retT, v_retT_b, v_retT_s, v_retT_l, v_retB, v_retB_b, v_add, v_sub, v_mul, v_mod, v_fdiv, v_pow, v_addl, v_addt, v_adds, v_mull, v_mult, v_lt, v_le, v_gt, v_ge, v_eq, v_ne, v_eqs, v_nes, v_isN, v_isNN, v_ltt, v_binR, v_frz_p, v_frz_n, v_pop_p, v_pop_n, v_sto_p, v_sto_n, v_sto_t, v_sto_o, v_lst, v_tup, v_lenR, v_len_s, v_bi_p, v_bi_n, v_bi_o, v_len_l, v_len_t, v_sum_l, v_sum_t, v_all, v_any, v_min_t, v_max_t, v_min_l, v_max_l, v_list_l, v_list_t, v_tuple_l, v_tuple_t, v_idx_t, v_idx_l, v_idx_n, v_idx_o, v_idx_s, v_tg1, v_app, v_seti, v_thn_n, v_thn_r, v_okB, v_noexc, v_arg_p, v_arg_n, v_arg_o, v_arg_s]
    generalize (ups 1 24).map (fun p => pt (TL.numL p.toNat)) = Q at *
    generalize namesC.map pt = N at *
    simp only [n1, n2, Bool.false_eq_true, if_false, if_true, reduceIte, List.getElem?_cons_zero, List.getElem?_cons_succ, List.set_cons_zero, List.set_cons_succ, List.map_cons, List.map_nil, List.length_cons, List.length_nil, List.cons_append, List.nil_append, List.replicate_succ, List.replicate_zero, Nat.reduceAdd, Nat.reduceSub, Bool.not_true, Bool.not_false, decide_true, decide_false, Option.map_some, List.take_succ_cons, List.take_zero, v_g0, v_gk, v_s0, v_sk, v_tk, cl_isx, cl_sub, List.append_assoc, List.length_append, evSs, evS, evE, evAs, evFs, evIs, evB, evO, evIf, cl_scr, Out.bind_ok, Out.bind_exc, Out.bind_bad, R.wipe, v_onP_p, v_onP_n, v_onP_o, v_onP_f, v_int, v_bl, v_str, v_data, v_seq, v_obj, v_ix, v_of, v_retT, v_retT_b, v_retT_s, v_retT_l, v_retB, v_retB_b, v_add, v_sub, v_mul, v_mod, v_fdiv, v_pow, v_addl, v_addt, v_adds, v_mull, v_mult, v_lt, v_le, v_gt, v_ge, v_eq, v_ne, v_eqs, v_nes, v_isN, v_isNN, v_ltt, v_binR, v_frz_p, v_frz_n, v_pop_p, v_pop_n, v_sto_p, v_sto_n, v_sto_t, v_sto_o, v_lst, v_tup, v_lenR, v_len_s, v_bi_p, v_bi_n, v_bi_o, v_len_l, v_len_t, v_sum_l, v_sum_t, v_all, v_any, v_min_t, v_max_t, v_min_l, v_max_l, v_list_l, v_list_t, v_tuple_l, v_tuple_t, v_idx_t, v_idx_l, v_idx_n, v_idx_o, v_idx_s, v_tg1, v_app, v_seti, v_thn_n, v_thn_r, v_okB, v_noexc, v_arg_p, v_arg_n, v_arg_o, v_arg_s]
  have hat := fun p h => names_at (p := p) h
  generalize namesC.map pt = N at *
  have S1 : evS (C ns d) s__law_text_1_1 (xE b μ.length (some (.p (sd a))) (some (.p (.lst N))) x4) (μ ++ [.lst F]) = .ok (.nx (xE b μ.length (some (.p (sd a))) (some (.p (.lst N))) (some (.p (.lst ((((ups 0 26).filter fun p => decide (0 < gi a p)).map (wordC a)).map pt)))))) (μ ++ [.lst F]) := by
    simp only [s__law_text_1_1, rng_26, List.length_map, ups_len, downs_len, Int.cast_ofNat_Int, List.take_length, Nat.add_assoc, big, v_ix0, v_ix1, v_ix2, v_ix3, v_il0, v_il1, v_in0, v_in1, v_in2, v_tg2, v_sum_ti, v_sum_li, v_len_ti, v_eq_nil, v_ne_nil, v_eq_sd, v_ne_sd, tx_inj, v_in_li, v_eq_li, v_ne_li, v_eq_bd, v_ne_bd, eq_self, and_self, or_self, Int.reduceAdd, Int.reduceSub, Int.reduceMul, Int.reduceNeg, Int.reduceLT, Int.reduceLE, Int.reduceEq, Int.reduceNe, Nat.reduceLeDiff, Nat.reduceLT, decide_true, decide_false, Bool.not_not, ite_true, ite_false, Bool.true_eq_false, Bool.false_eq_true, Bool.and_true, Bool.true_and, Bool.and_false, Bool.false_and, Bool.or_true, Bool.true_or, Bool.or_false, Bool.false_or, Bool.false_eq_true, if_false, if_true, reduceIte, List.getElem?_cons_zero, List.getElem?_cons_succ, List.set_cons_zero, List.set_cons_succ, List.map_cons, List.map_nil, List.length_cons, List.length_nil, List.cons_append, List.nil_append, List.replicate_succ, List.replicate_zero, Nat.reduceAdd, Nat.reduceSub, Bool.not_true, Bool.not_false, decide_true, decide_false, Option.map_some, List.take_succ_cons, List.take_zero, v_g0, v_gk, v_s0, v_sk, v_tk, cl_isx, cl_sub, List.append_assoc, List.length_append, evSs, evS, evE, evAs, evFs, evIs, evB, evO, evIf, cl_scr, Out.bind_ok, Out.bind_exc, Out.bind_bad, R.wipe, v_onP_p, v_onP_n, v_onP_o, v_onP_f, v_int, v_bl, v_str, v_data, v_seq, v_obj, v_ix, v_of, v_retT, v_retT_b, v_retT_s, v_retT_l, v_retB, v_retB_b, v_add, v_sub, v_mul, v_mod, v_fdiv, v_pow, v_addl, v_addt, v_adds, v_mull, v_mult, v_lt, v_le, v_gt, v_ge, v_eq, v_ne, v_eqs, v_nes, v_isN, v_isNN, v_ltt, v_binR, v_frz_p, v_frz_n, v_pop_p, v_pop_n, v_sto_p, v_sto_n, v_sto_t, v_sto_o, v_lst, v_tup, v_lenR, v_len_s, v_bi_p, v_bi_n, v_bi_o, v_len_l, v_len_t, v_sum_l, v_sum_t, v_all, v_any, v_min_t, v_max_t, v_min_l, v_max_l, v_list_l, v_list_t, v_tuple_l, v_tuple_t, v_idx_t, v_idx_l, v_idx_n, v_idx_o, v_idx_s, v_tg1, v_app, v_seti, v_thn_n, v_thn_r, v_okB, v_noexc, v_arg_p, v_arg_n, v_arg_o, v_arg_s]
    rw [compL_if (f := fun p => pt (wordC a p)) (c := fun p => decide (0 < gi a p)) ?hh]
    case hh =>
      intro p hp
      obtain ⟨p1, p2⟩ := mem_ups.mp hp
      have g := v_sd (scr := ns) (xs := a) (μ := μ ++ [.lst F]) (i := p) (by omega) (by omega)
      have gn : idxR ns (.p (.lst N)) (.p (.int p)) (μ ++ [.lst F]) = .ok (.p (pt (plC p))) (μ ++ [.lst F]) := v_idx_l (hat p ⟨by omega, by omega⟩)
      have hb := side_b ha (i := p) (by omega) (by omega)
      have hs := (isSide_iff.mp ha).2.2.2
      have hn := v_strint (i := gi a p) (by omega) (by omega)
      have h1 := plC_len (p := p) (by omega)
      have h2 := numL_2 (n := (gi a p).toNat) (by omega)
      have a1 : binP .Add (pt (plC p)) (pt [58]) = some (.p (pt (plC p ++ [58]))) := v_addtx (by show _ + 1 ≤ 1000000; omega)
      have a2 : binP .Add (pt (plC p ++ [58])) (pt (TL.numL (gi a p).toNat)) = some (.p (pt (wordC a p))) := v_addtx (by rw [List.length_append]; show _ + 1 + _ ≤ 1000000; omega)
      by_cases c : 0 < gi a p
      · have k : decide (0 < gi a p) = true := decide_eq_true c
        rw [k, if_pos rfl]
        simp only [g, k, gn, hn, l_col, a1, a2, List.length_map, ups_len, downs_len, Int.cast_ofNat_Int, List.take_length, Nat.add_assoc, big, v_ix0, v_ix1, v_ix2, v_ix3, v_il0, v_il1, v_in0, v_in1, v_in2, v_tg2, v_sum_ti, v_sum_li, v_len_ti, v_eq_nil, v_ne_nil, v_eq_sd, v_ne_sd, tx_inj, v_in_li, v_eq_li, v_ne_li, v_eq_bd, v_ne_bd, eq_self, and_self, or_self, Int.reduceAdd, Int.reduceSub, Int.reduceMul, Int.reduceNeg, Int.reduceLT, Int.reduceLE, Int.reduceEq, Int.reduceNe, Nat.reduceLeDiff, Nat.reduceLT, decide_true, decide_false, Bool.not_not, ite_true, ite_false, Bool.true_eq_false, Bool.false_eq_true, Bool.and_true, Bool.true_and, Bool.and_false, Bool.false_and, Bool.or_true, Bool.true_or, Bool.or_false, Bool.false_or, Bool.false_eq_true, if_false, if_true, reduceIte, List.getElem?_cons_zero, List.getElem?_cons_succ, List.set_cons_zero, List.set_cons_succ, List.map_cons, List.map_nil, List.length_cons, List.length_nil, List.cons_append, List.nil_append, List.replicate_succ, List.replicate_zero, Nat.reduceAdd, Nat.reduceSub, Bool.not_true, Bool.not_false, decide_true, decide_false, Option.map_some, List.take_succ_cons, List.take_zero, v_g0, v_gk, v_s0, v_sk, v_tk, cl_isx, cl_sub, List.append_assoc, List.length_append, evSs, evS, evE, evAs, evFs, evIs, evB, evO, evIf, cl_scr, Out.bind_ok, Out.bind_exc, Out.bind_bad, R.wipe, v_onP_p, v_onP_n, v_onP_o, v_onP_f, v_int, v_bl, v_str, v_data, v_seq, v_obj, v_ix, v_of, v_retT, v_retT_b, v_retT_s, v_retT_l, v_retB, v_retB_b, v_add, v_sub, v_mul, v_mod, v_fdiv, v_pow, v_addl, v_addt, v_adds, v_mull, v_mult, v_lt, v_le, v_gt, v_ge, v_eq, v_ne, v_eqs, v_nes, v_isN, v_isNN, v_ltt, v_binR, v_frz_p, v_frz_n, v_pop_p, v_pop_n, v_sto_p, v_sto_n, v_sto_t, v_sto_o, v_lst, v_tup, v_lenR, v_len_s, v_bi_p, v_bi_n, v_bi_o, v_len_l, v_len_t, v_sum_l, v_sum_t, v_all, v_any, v_min_t, v_max_t, v_min_l, v_max_l, v_list_l, v_list_t, v_tuple_l, v_tuple_t, v_idx_t, v_idx_l, v_idx_n, v_idx_o, v_idx_s, v_tg1, v_app, v_seti, v_thn_n, v_thn_r, v_okB, v_noexc, v_arg_p, v_arg_n, v_arg_o, v_arg_s]
      · have k : decide (0 < gi a p) = false := decide_eq_false c
        rw [k, if_neg Bool.false_ne_true]
        simp only [g, k, List.length_map, ups_len, downs_len, Int.cast_ofNat_Int, List.take_length, Nat.add_assoc, big, v_ix0, v_ix1, v_ix2, v_ix3, v_il0, v_il1, v_in0, v_in1, v_in2, v_tg2, v_sum_ti, v_sum_li, v_len_ti, v_eq_nil, v_ne_nil, v_eq_sd, v_ne_sd, tx_inj, v_in_li, v_eq_li, v_ne_li, v_eq_bd, v_ne_bd, eq_self, and_self, or_self, Int.reduceAdd, Int.reduceSub, Int.reduceMul, Int.reduceNeg, Int.reduceLT, Int.reduceLE, Int.reduceEq, Int.reduceNe, Nat.reduceLeDiff, Nat.reduceLT, decide_true, decide_false, Bool.not_not, ite_true, ite_false, Bool.true_eq_false, Bool.false_eq_true, Bool.and_true, Bool.true_and, Bool.and_false, Bool.false_and, Bool.or_true, Bool.true_or, Bool.or_false, Bool.false_or, Bool.false_eq_true, if_false, if_true, reduceIte, List.getElem?_cons_zero, List.getElem?_cons_succ, List.set_cons_zero, List.set_cons_succ, List.map_cons, List.map_nil, List.length_cons, List.length_nil, List.cons_append, List.nil_append, List.replicate_succ, List.replicate_zero, Nat.reduceAdd, Nat.reduceSub, Bool.not_true, Bool.not_false, decide_true, decide_false, Option.map_some, List.take_succ_cons, List.take_zero, v_g0, v_gk, v_s0, v_sk, v_tk, cl_isx, cl_sub, List.append_assoc, List.length_append, evSs, evS, evE, evAs, evFs, evIs, evB, evO, evIf, cl_scr, Out.bind_ok, Out.bind_exc, Out.bind_bad, R.wipe, v_onP_p, v_onP_n, v_onP_o, v_onP_f, v_int, v_bl, v_str, v_data, v_seq, v_obj, v_ix, v_of, v_retT, v_retT_b, v_retT_s, v_retT_l, v_retB, v_retB_b, v_add, v_sub, v_mul, v_mod, v_fdiv, v_pow, v_addl, v_addt, v_adds, v_mull, v_mult, v_lt, v_le, v_gt, v_ge, v_eq, v_ne, v_eqs, v_nes, v_isN, v_isNN, v_ltt, v_binR, v_frz_p, v_frz_n, v_pop_p, v_pop_n, v_sto_p, v_sto_n, v_sto_t, v_sto_o, v_lst, v_tup, v_lenR, v_len_s, v_bi_p, v_bi_n, v_bi_o, v_len_l, v_len_t, v_sum_l, v_sum_t, v_all, v_any, v_min_t, v_max_t, v_min_l, v_max_l, v_list_l, v_list_t, v_tuple_l, v_tuple_t, v_idx_t, v_idx_l, v_idx_n, v_idx_o, v_idx_s, v_tg1, v_app, v_seti, v_thn_n, v_thn_r, v_okB, v_noexc, v_arg_p, v_arg_n, v_arg_o, v_arg_s]
    have e : ((ups 0 26).filter fun p => decide (0 < gi a p)).map (fun p => pt (wordC a p)) = (((ups 0 26).filter fun p => decide (0 < gi a p)).map (wordC a)).map pt := by rw [List.map_map]; rfl
    rw [e]
    simp only [Bool.false_eq_true, if_false, if_true, reduceIte, List.getElem?_cons_zero, List.getElem?_cons_succ, List.set_cons_zero, List.set_cons_succ, List.map_cons, List.map_nil, List.length_cons, List.length_nil, List.cons_append, List.nil_append, List.replicate_succ, List.replicate_zero, Nat.reduceAdd, Nat.reduceSub, Bool.not_true, Bool.not_false, decide_true, decide_false, Option.map_some, List.take_succ_cons, List.take_zero, v_g0, v_gk, v_s0, v_sk, v_tk, cl_isx, cl_sub, List.append_assoc, List.length_append, evSs, evS, evE, evAs, evFs, evIs, evB, evO, evIf, cl_scr, Out.bind_ok, Out.bind_exc, Out.bind_bad, R.wipe, v_onP_p, v_onP_n, v_onP_o, v_onP_f, v_int, v_bl, v_str, v_data, v_seq, v_obj, v_ix, v_of, v_retT, v_retT_b, v_retT_s, v_retT_l, v_retB, v_retB_b, v_add, v_sub, v_mul, v_mod, v_fdiv, v_pow, v_addl, v_addt, v_adds, v_mull, v_mult, v_lt, v_le, v_gt, v_ge, v_eq, v_ne, v_eqs, v_nes, v_isN, v_isNN, v_ltt, v_binR, v_frz_p, v_frz_n, v_pop_p, v_pop_n, v_sto_p, v_sto_n, v_sto_t, v_sto_o, v_lst, v_tup, v_lenR, v_len_s, v_bi_p, v_bi_n, v_bi_o, v_len_l, v_len_t, v_sum_l, v_sum_t, v_all, v_any, v_min_t, v_max_t, v_min_l, v_max_l, v_list_l, v_list_t, v_tuple_l, v_tuple_t, v_idx_t, v_idx_l, v_idx_n, v_idx_o, v_idx_s, v_tg1, v_app, v_seti, v_thn_n, v_thn_r, v_okB, v_noexc, v_arg_p, v_arg_n, v_arg_o, v_arg_s]
  have hr : revP (.lst ((((ups 0 26).filter fun p => decide (0 < gi a p)).map (wordC a)).map pt)) = some (.n ((wordsC a).map pt)) := by
    show some (Rv.n (List.reverse _)) = _
    rw [← List.map_reverse, words_rev]
  generalize (((ups 0 26).filter fun p => decide (0 < gi a p)).map (wordC a)).map pt = Q at *
  have hj : meP .join (pt [32]) [.lst ((wordsC a).map pt)] = some (.p (pt (sideC a))) := v_join (by have := wordsC_sum ha; show _ ≤ 1000000; omega)
  have hm : ∀ M : Mu, meR .join (tx [32]) (.n ((wordsC a).map pt)) M = .ok (.p (pt (sideC a))) M := fun M => by simp only [meR, v_onP_n, hj, v_of]
  have hk : (μ ++ [MO.lst F])[μ.length]? = some (.lst F) := by rw [v_g0]; rfl
  have ho : ∀ f : Nat → List P → Out Fl, objR (.o μ.length) (μ ++ [.lst F]) f = f μ.length F := fun f => v_obj hk
  have hap : ∀ (x : P) (ρ : Env), appR (.o μ.length) x ρ (μ ++ [.lst F]) = .ok (.nx ρ) (μ ++ [.lst (F ++ [x])]) := fun x ρ => by
    rw [v_app hk (by show _ < 1000000; omega), v_s0]
    rfl
  have S2 : evS (C ns d) s__law_text_1_2 (xE b μ.length (some (.p (sd a))) (some (.p (.lst N))) (some (.p (.lst Q)))) (μ ++ [.lst F]) = .ok (.nx (xE b μ.length (some (.p (sd a))) (some (.p (.lst N))) (some (.p (.lst Q))))) (μ ++ [.lst (F ++ [pt (sideC a)])]) := by
    generalize (wordsC a).map pt = W at *
    generalize sideC a = T at *
    simp only [s__law_text_1_2, ho, hr, l_sp, hm, hap, List.length_map, ups_len, downs_len, Int.cast_ofNat_Int, List.take_length, Nat.add_assoc, big, v_ix0, v_ix1, v_ix2, v_ix3, v_il0, v_il1, v_in0, v_in1, v_in2, v_tg2, v_sum_ti, v_sum_li, v_len_ti, v_eq_nil, v_ne_nil, v_eq_sd, v_ne_sd, tx_inj, v_in_li, v_eq_li, v_ne_li, v_eq_bd, v_ne_bd, eq_self, and_self, or_self, Int.reduceAdd, Int.reduceSub, Int.reduceMul, Int.reduceNeg, Int.reduceLT, Int.reduceLE, Int.reduceEq, Int.reduceNe, Nat.reduceLeDiff, Nat.reduceLT, decide_true, decide_false, Bool.not_not, ite_true, ite_false, Bool.true_eq_false, Bool.false_eq_true, Bool.and_true, Bool.true_and, Bool.and_false, Bool.false_and, Bool.or_true, Bool.true_or, Bool.or_false, Bool.false_or, Bool.false_eq_true, if_false, if_true, reduceIte, List.getElem?_cons_zero, List.getElem?_cons_succ, List.set_cons_zero, List.set_cons_succ, List.map_cons, List.map_nil, List.length_cons, List.length_nil, List.cons_append, List.nil_append, List.replicate_succ, List.replicate_zero, Nat.reduceAdd, Nat.reduceSub, Bool.not_true, Bool.not_false, decide_true, decide_false, Option.map_some, List.take_succ_cons, List.take_zero, v_g0, v_gk, v_s0, v_sk, v_tk, cl_isx, cl_sub, List.append_assoc, List.length_append, evSs, evS, evE, evAs, evFs, evIs, evB, evO, evIf, cl_scr, Out.bind_ok, Out.bind_exc, Out.bind_bad, R.wipe, v_onP_p, v_onP_n, v_onP_o, v_onP_f, v_int, v_bl, v_str, v_data, v_seq, v_obj, v_ix, v_of, v_retT, v_retT_b, v_retT_s, v_retT_l, v_retB, v_retB_b, v_add, v_sub, v_mul, v_mod, v_fdiv, v_pow, v_addl, v_addt, v_adds, v_mull, v_mult, v_lt, v_le, v_gt, v_ge, v_eq, v_ne, v_eqs, v_nes, v_isN, v_isNN, v_ltt, v_binR, v_frz_p, v_frz_n, v_pop_p, v_pop_n, v_sto_p, v_sto_n, v_sto_t, v_sto_o, v_lst, v_tup, v_lenR, v_len_s, v_bi_p, v_bi_n, v_bi_o, v_len_l, v_len_t, v_sum_l, v_sum_t, v_all, v_any, v_min_t, v_max_t, v_min_l, v_max_l, v_list_l, v_list_t, v_tuple_l, v_tuple_t, v_idx_t, v_idx_l, v_idx_n, v_idx_o, v_idx_s, v_tg1, v_app, v_seti, v_thn_n, v_thn_r, v_okB, v_noexc, v_arg_p, v_arg_n, v_arg_o, v_arg_s]
  exact ⟨_, _, (ss_next S0).trans ((ss_next S1).trans ((ss_next S2).trans rfl))⟩
theorem fn_ltext (ns : List Int) (d : Nat) {a b : List Int} (ha : isSide a = true) (hb : isSide b = true) (μ : Mu) : (C ns (d + 1)).fn 17 [.p (bd a b)] μ = .ok (.p (pt (boardC (a, b)))) μ := by
  rw [cl_fn (f := f__law_text) rfl]
  have S0 : evS (C ns d) s__law_text_0 [some (.p (bd a b)), none, none, none, none, none] μ = .ok (.nx (xE (bd a b) μ.length none none none)) (μ ++ [.lst []]) := by
    simp only [s__law_text_0, List.length_map, ups_len, downs_len, Int.cast_ofNat_Int, List.take_length, Nat.add_assoc, big, v_ix0, v_ix1, v_ix2, v_ix3, v_il0, v_il1, v_in0, v_in1, v_in2, v_tg2, v_sum_ti, v_sum_li, v_len_ti, v_eq_nil, v_ne_nil, v_eq_sd, v_ne_sd, tx_inj, v_in_li, v_eq_li, v_ne_li, v_eq_bd, v_ne_bd, eq_self, and_self, or_self, Int.reduceAdd, Int.reduceSub, Int.reduceMul, Int.reduceNeg, Int.reduceLT, Int.reduceLE, Int.reduceEq, Int.reduceNe, Nat.reduceLeDiff, Nat.reduceLT, decide_true, decide_false, Bool.not_not, ite_true, ite_false, Bool.true_eq_false, Bool.false_eq_true, Bool.and_true, Bool.true_and, Bool.and_false, Bool.false_and, Bool.or_true, Bool.true_or, Bool.or_false, Bool.false_or, Bool.false_eq_true, if_false, if_true, reduceIte, List.getElem?_cons_zero, List.getElem?_cons_succ, List.set_cons_zero, List.set_cons_succ, List.map_cons, List.map_nil, List.length_cons, List.length_nil, List.cons_append, List.nil_append, List.replicate_succ, List.replicate_zero, Nat.reduceAdd, Nat.reduceSub, Bool.not_true, Bool.not_false, decide_true, decide_false, Option.map_some, List.take_succ_cons, List.take_zero, v_g0, v_gk, v_s0, v_sk, v_tk, cl_isx, cl_sub, List.append_assoc, List.length_append, evSs, evS, evE, evAs, evFs, evIs, evB, evO, evIf, cl_scr, Out.bind_ok, Out.bind_exc, Out.bind_bad, R.wipe, v_onP_p, v_onP_n, v_onP_o, v_onP_f, v_int, v_bl, v_str, v_data, v_seq, v_obj, v_ix, v_of, v_retT, v_retT_b, v_retT_s, v_retT_l, v_retB, v_retB_b, v_add, v_sub, v_mul, v_mod, v_fdiv, v_pow, v_addl, v_addt, v_adds, v_mull, v_mult, v_lt, v_le, v_gt, v_ge, v_eq, v_ne, v_eqs, v_nes, v_isN, v_isNN, v_ltt, v_binR, v_frz_p, v_frz_n, v_pop_p, v_pop_n, v_sto_p, v_sto_n, v_sto_t, v_sto_o, v_lst, v_tup, v_lenR, v_len_s, v_bi_p, v_bi_n, v_bi_o, v_len_l, v_len_t, v_sum_l, v_sum_t, v_all, v_any, v_min_t, v_max_t, v_min_l, v_max_l, v_list_l, v_list_t, v_tuple_l, v_tuple_t, v_idx_t, v_idx_l, v_idx_n, v_idx_o, v_idx_s, v_tg1, v_app, v_seti, v_thn_n, v_thn_r, v_okB, v_noexc, v_arg_p, v_arg_n, v_arg_o, v_arg_s]
  obtain ⟨y3, y4, e1⟩ := text_side ns d (bd a b) μ [] (by simp) ha none none
  obtain ⟨z3, z4, e2⟩ := text_side ns d (bd a b) μ [pt (sideC a)] (by simp) hb y3 y4
  have S1 : evS (C ns d) s__law_text_1 (xE (bd a b) μ.length none none none) (μ ++ [.lst []]) = .ok (.nx (xE (bd a b) μ.length (some (.p (sd b))) z3 z4)) (μ ++ [.lst [pt (sideC a), pt (sideC b)]]) := by
    simp only [evSs] at e1 e2
    simp only [s__law_text_1, evS, evE, evFs, v_retT, v_frz_p, Out.bind_ok, v_of, List.getElem?_cons_zero, Bool.false_eq_true, if_false, itemsP, forL, v_tg1, List.set_cons_succ, List.set_cons_zero, evSs, e1, v_thn_n]
    simp only [List.nil_append, List.cons_append] at e2 ⊢
    simp only [e2, Out.bind_ok, v_thn_n]
  have l1 := sideC_len ha
  have l2 := sideC_len hb
  have hj : meP .join (pt sepC) [.lst ([sideC a, sideC b].map pt)] = some (.p (pt (TL.joinL sepC [sideC a, sideC b]))) := v_join (by show (sideC a).length + ((sideC b).length + 0) + 3 * 2 ≤ 1000000; omega)
  have ej : TL.joinL sepC [sideC a, sideC b] = boardC (a, b) := by
    show sideC a ++ (sepC ++ sideC b) = sideC a ++ sepC ++ sideC b
    rw [List.append_assoc]
  rw [ej] at hj
  have hk : (μ ++ [MO.lst [pt (sideC a), pt (sideC b)]])[μ.length]? = some (.lst [pt (sideC a), pt (sideC b)]) := by rw [v_g0]; rfl
  have hm : meR .join (tx sepC) (.o μ.length) (μ ++ [.lst [pt (sideC a), pt (sideC b)]]) = .ok (.p (pt (boardC (a, b)))) (μ ++ [.lst [pt (sideC a), pt (sideC b)]]) := by
    simp only [meR, v_onP_o hk]
    simp only [List.map_cons, List.map_nil] at hj
    simp only [hj, v_of]
  have ls : Str.ofString " | " = tx sepC := l_sep
  have S2 : evS (C ns d) s__law_text_2 (xE (bd a b) μ.length (some (.p (sd b))) z3 z4) (μ ++ [.lst [pt (sideC a), pt (sideC b)]]) = .ok (.rt (.p (pt (boardC (a, b))))) (μ ++ [.lst [pt (sideC a), pt (sideC b)]]) := by
    generalize boardC (a, b) = T at *
    generalize sepC = U at *
    simp only [s__law_text_2, ls, hm, List.length_map, ups_len, downs_len, Int.cast_ofNat_Int, List.take_length, Nat.add_assoc, big, v_ix0, v_ix1, v_ix2, v_ix3, v_il0, v_il1, v_in0, v_in1, v_in2, v_tg2, v_sum_ti, v_sum_li, v_len_ti, v_eq_nil, v_ne_nil, v_eq_sd, v_ne_sd, tx_inj, v_in_li, v_eq_li, v_ne_li, v_eq_bd, v_ne_bd, eq_self, and_self, or_self, Int.reduceAdd, Int.reduceSub, Int.reduceMul, Int.reduceNeg, Int.reduceLT, Int.reduceLE, Int.reduceEq, Int.reduceNe, Nat.reduceLeDiff, Nat.reduceLT, decide_true, decide_false, Bool.not_not, ite_true, ite_false, Bool.true_eq_false, Bool.false_eq_true, Bool.and_true, Bool.true_and, Bool.and_false, Bool.false_and, Bool.or_true, Bool.true_or, Bool.or_false, Bool.false_or, Bool.false_eq_true, if_false, if_true, reduceIte, List.getElem?_cons_zero, List.getElem?_cons_succ, List.set_cons_zero, List.set_cons_succ, List.map_cons, List.map_nil, List.length_cons, List.length_nil, List.cons_append, List.nil_append, List.replicate_succ, List.replicate_zero, Nat.reduceAdd, Nat.reduceSub, Bool.not_true, Bool.not_false, decide_true, decide_false, Option.map_some, List.take_succ_cons, List.take_zero, v_g0, v_gk, v_s0, v_sk, v_tk, cl_isx, cl_sub, List.append_assoc, List.length_append, evSs, evS, evE, evAs, evFs, evIs, evB, evO, evIf, cl_scr, Out.bind_ok, Out.bind_exc, Out.bind_bad, R.wipe, v_onP_p, v_onP_n, v_onP_o, v_onP_f, v_int, v_bl, v_str, v_data, v_seq, v_obj, v_ix, v_of, v_retT, v_retT_b, v_retT_s, v_retT_l, v_retB, v_retB_b, v_add, v_sub, v_mul, v_mod, v_fdiv, v_pow, v_addl, v_addt, v_adds, v_mull, v_mult, v_lt, v_le, v_gt, v_ge, v_eq, v_ne, v_eqs, v_nes, v_isN, v_isNN, v_ltt, v_binR, v_frz_p, v_frz_n, v_pop_p, v_pop_n, v_sto_p, v_sto_n, v_sto_t, v_sto_o, v_lst, v_tup, v_lenR, v_len_s, v_bi_p, v_bi_n, v_bi_o, v_len_l, v_len_t, v_sum_l, v_sum_t, v_all, v_any, v_min_t, v_max_t, v_min_l, v_max_l, v_list_l, v_list_t, v_tuple_l, v_tuple_t, v_idx_t, v_idx_l, v_idx_n, v_idx_o, v_idx_s, v_tg1, v_app, v_seti, v_thn_n, v_thn_r, v_okB, v_noexc, v_arg_p, v_arg_n, v_arg_o, v_arg_s]
  rw [fn_ret (f := f__law_text) (ρ := [some (.p (bd a b)), none, none, none, none, none]) rfl rfl ((ss_next S0).trans ((ss_next S1).trans (ss_last S2))), v_pop_p, v_tk]
theorem mem_names {p : List Nat} : p ∈ namesC ↔ (placeIn p).isSome = true := by
  unfold namesC
  rw [List.mem_map]
  constructor
  · rintro ⟨q, hq, rfl⟩
    have := mem_ups.mp hq
    rw [placeIn_b (by omega)]
    rfl
  · intro h
    obtain ⟨q, hq⟩ := Option.isSome_iff_exists.mp h
    obtain ⟨e, q0, q1⟩ := placeIn_text hq
    exact ⟨q, mem_ups.mpr ⟨q0, by omega⟩, e.symm⟩
theorem names_ix : ∀ q : Nat, q < 26 → namesC.findIdx? (fun x => decide (x = plC ((q : Nat) : Int))) = some q := by decide +kernel
def numsC : List (List Nat) := (ups 1 15).map fun v => TL.numL v.toNat
theorem nums_plain : ∀ x ∈ numsC, plainT x = true := by decide +kernel
theorem mem_nums {m : List Nat} : m ∈ numsC ↔ (numIn m 15).isSome = true := by
  unfold numsC
  rw [List.mem_map]
  constructor
  · rintro ⟨v, hv, rfl⟩
    have := mem_ups.mp hv
    rw [numIn_back (by omega) (by omega) (by omega)]
    rfl
  · intro h
    obtain ⟨v, hv⟩ := Option.isSome_iff_exists.mp h
    obtain ⟨e, v0, v1, _⟩ := numIn_text hv
    exact ⟨v, mem_ups.mpr ⟨v0, by omega⟩, e.symm⟩
theorem numIn_digs {m : List Nat} {k v : Int} (h : numIn m k = some v) : biP .int [pt m] = some (.p (.int v)) := by
  unfold numIn at h
  split at h
  · rename_i hc
    cases h
    exact v_inttx hc.2.1 (by intro e; rw [e] at hc; exact absurd hc.1.1 (by simp)) (by omega)
  · exact absurd h (by simp)
abbrev oE (t : P) (o1 : Nat) (N x3 : Option Rv) (o4 : Option Rv) (x5 x6 : Option Rv) : Env := [some (.p t), some (.o o1), N, x3, o4, x5, x6, none, none, none]
theorem of_word (ns : List Int) (d : Nat) (t : P) (o1 : Nat) (x3 : Option Rv) (M : Mu) (w : List Nat) (hw : w.length ≤ 900) (hpw : plainT w = true) (x : List Int) (lx : x.length = 26) (x6 : Option Rv) :
    ∃ x6', evSs (C ns d) [s__law_board_of_2_1_0, s__law_board_of_2_1_1] (oE t o1 (some (.p (.lst (namesC.map pt)))) x3 (some (.o M.length)) (some (.p (pt w))) x6) (M ++ [.lst (x.map .int)]) = .ok (.nx (oE t o1 (some (.p (.lst (namesC.map pt)))) x3 (some (.o M.length)) (some (.p (pt w))) x6')) (M ++ [.lst ((lenStep x w).map .int)]) := by
  have hs := v_split (a := w) (b := [58]) (by simp) (by decide) (by show _ ≤ 1000000; omega)
  have hpl : ∀ p ∈ TL.spl [58] 0 [] w, plainT p = true := fun p hp => plain_spl hpw hp
  unfold lenStep
  generalize TL.spl [58] 0 [] w = parts at *
  have hm : meR .split (tx w) (.p (pt [58])) (M ++ [.lst (x.map .int)]) = .ok (.n (parts.map pt)) (M ++ [.lst (x.map .int)]) := by simp only [meR, v_onP_p, hs, v_of]
  have S0 : evS (C ns d) s__law_board_of_2_1_0 (oE t o1 (some (.p (.lst (namesC.map pt)))) x3 (some (.o M.length)) (some (.p (pt w))) x6) (M ++ [.lst (x.map .int)]) = .ok (.nx (oE t o1 (some (.p (.lst (namesC.map pt)))) x3 (some (.o M.length)) (some (.p (pt w))) (some (.p (.lst (parts.map pt)))))) (M ++ [.lst (x.map .int)]) := by
    generalize parts.map pt = Q at *
    generalize namesC.map pt = N at *
    simp only [s__law_board_of_2_1_0, l_col, hm, List.length_map, ups_len, downs_len, Int.cast_ofNat_Int, List.take_length, Nat.add_assoc, big, v_ix0, v_ix1, v_ix2, v_ix3, v_il0, v_il1, v_in0, v_in1, v_in2, v_tg2, v_sum_ti, v_sum_li, v_len_ti, v_eq_nil, v_ne_nil, v_eq_sd, v_ne_sd, tx_inj, v_in_li, v_eq_li, v_ne_li, v_eq_bd, v_ne_bd, eq_self, and_self, or_self, Int.reduceAdd, Int.reduceSub, Int.reduceMul, Int.reduceNeg, Int.reduceLT, Int.reduceLE, Int.reduceEq, Int.reduceNe, Nat.reduceLeDiff, Nat.reduceLT, decide_true, decide_false, Bool.not_not, ite_true, ite_false, Bool.true_eq_false, Bool.false_eq_true, Bool.and_true, Bool.true_and, Bool.and_false, Bool.false_and, Bool.or_true, Bool.true_or, Bool.or_false, Bool.false_or, Bool.false_eq_true, if_false, if_true, reduceIte, List.getElem?_cons_zero, List.getElem?_cons_succ, List.set_cons_zero, List.set_cons_succ, List.map_cons, List.map_nil, List.length_cons, List.length_nil, List.cons_append, List.nil_append, List.replicate_succ, List.replicate_zero, Nat.reduceAdd, Nat.reduceSub, Bool.not_true, Bool.not_false, decide_true, decide_false, Option.map_some, List.take_succ_cons, List.take_zero, v_g0, v_gk, v_s0, v_sk, v_tk, cl_isx, cl_sub, List.append_assoc, List.length_append, evSs, evS, evE, evAs, evFs, evIs, evB, evO, evIf, cl_scr, Out.bind_ok, Out.bind_exc, Out.bind_bad, R.wipe, v_onP_p, v_onP_n, v_onP_o, v_onP_f, v_int, v_bl, v_str, v_data, v_seq, v_obj, v_ix, v_of, v_retT, v_retT_b, v_retT_s, v_retT_l, v_retB, v_retB_b, v_add, v_sub, v_mul, v_mod, v_fdiv, v_pow, v_addl, v_addt, v_adds, v_mull, v_mult, v_lt, v_le, v_gt, v_ge, v_eq, v_ne, v_eqs, v_nes, v_isN, v_isNN, v_ltt, v_binR, v_frz_p, v_frz_n, v_pop_p, v_pop_n, v_sto_p, v_sto_n, v_sto_t, v_sto_o, v_lst, v_tup, v_lenR, v_len_s, v_bi_p, v_bi_n, v_bi_o, v_len_l, v_len_t, v_sum_l, v_sum_t, v_all, v_any, v_min_t, v_max_t, v_min_l, v_max_l, v_list_l, v_list_t, v_tuple_l, v_tuple_t, v_idx_t, v_idx_l, v_idx_n, v_idx_o, v_idx_s, v_tg1, v_app, v_seti, v_thn_n, v_thn_r, v_okB, v_noexc, v_arg_p, v_arg_n, v_arg_o, v_arg_s]
  have skip : evS (C ns d) s__law_board_of_2_1_1 (oE t o1 (some (.p (.lst (namesC.map pt)))) x3 (some (.o M.length)) (some (.p (pt w))) (some (.p (.lst (parts.map pt))))) (M ++ [.lst (x.map .int)]) = .ok (.nx (oE t o1 (some (.p (.lst (namesC.map pt)))) x3 (some (.o M.length)) (some (.p (pt w))) (some (.p (.lst (parts.map pt)))))) (M ++ [.lst (x.map .int)]) → ∀ y, y = x → ∃ x6', evSs (C ns d) [s__law_board_of_2_1_0, s__law_board_of_2_1_1] (oE t o1 (some (.p (.lst (namesC.map pt)))) x3 (some (.o M.length)) (some (.p (pt w))) x6) (M ++ [.lst (x.map .int)]) = .ok (.nx (oE t o1 (some (.p (.lst (namesC.map pt)))) x3 (some (.o M.length)) (some (.p (pt w))) x6')) (M ++ [.lst (y.map .int)]) := fun S1 y hy => by
    subst hy
    exact ⟨_, (ss_next S0).trans ((ss_next S1).trans rfl)⟩
  by_cases h2 : parts.length = 2
  case neg =>
    have k : decide ((parts.length : Int) = 2) = false := decide_eq_false (by omega)
    refine skip ?_ _ ?_
    · generalize namesC.map pt = N at *
      simp only [s__law_board_of_2_1_1, k, List.length_map, ups_len, downs_len, Int.cast_ofNat_Int, List.take_length, Nat.add_assoc, big, v_ix0, v_ix1, v_ix2, v_ix3, v_il0, v_il1, v_in0, v_in1, v_in2, v_tg2, v_sum_ti, v_sum_li, v_len_ti, v_eq_nil, v_ne_nil, v_eq_sd, v_ne_sd, tx_inj, v_in_li, v_eq_li, v_ne_li, v_eq_bd, v_ne_bd, eq_self, and_self, or_self, Int.reduceAdd, Int.reduceSub, Int.reduceMul, Int.reduceNeg, Int.reduceLT, Int.reduceLE, Int.reduceEq, Int.reduceNe, Nat.reduceLeDiff, Nat.reduceLT, decide_true, decide_false, Bool.not_not, ite_true, ite_false, Bool.true_eq_false, Bool.false_eq_true, Bool.and_true, Bool.true_and, Bool.and_false, Bool.false_and, Bool.or_true, Bool.true_or, Bool.or_false, Bool.false_or, Bool.false_eq_true, if_false, if_true, reduceIte, List.getElem?_cons_zero, List.getElem?_cons_succ, List.set_cons_zero, List.set_cons_succ, List.map_cons, List.map_nil, List.length_cons, List.length_nil, List.cons_append, List.nil_append, List.replicate_succ, List.replicate_zero, Nat.reduceAdd, Nat.reduceSub, Bool.not_true, Bool.not_false, decide_true, decide_false, Option.map_some, List.take_succ_cons, List.take_zero, v_g0, v_gk, v_s0, v_sk, v_tk, cl_isx, cl_sub, List.append_assoc, List.length_append, evSs, evS, evE, evAs, evFs, evIs, evB, evO, evIf, cl_scr, Out.bind_ok, Out.bind_exc, Out.bind_bad, R.wipe, v_onP_p, v_onP_n, v_onP_o, v_onP_f, v_int, v_bl, v_str, v_data, v_seq, v_obj, v_ix, v_of, v_retT, v_retT_b, v_retT_s, v_retT_l, v_retB, v_retB_b, v_add, v_sub, v_mul, v_mod, v_fdiv, v_pow, v_addl, v_addt, v_adds, v_mull, v_mult, v_lt, v_le, v_gt, v_ge, v_eq, v_ne, v_eqs, v_nes, v_isN, v_isNN, v_ltt, v_binR, v_frz_p, v_frz_n, v_pop_p, v_pop_n, v_sto_p, v_sto_n, v_sto_t, v_sto_o, v_lst, v_tup, v_lenR, v_len_s, v_bi_p, v_bi_n, v_bi_o, v_len_l, v_len_t, v_sum_l, v_sum_t, v_all, v_any, v_min_t, v_max_t, v_min_l, v_max_l, v_list_l, v_list_t, v_tuple_l, v_tuple_t, v_idx_t, v_idx_l, v_idx_n, v_idx_o, v_idx_s, v_tg1, v_app, v_seti, v_thn_n, v_thn_r, v_okB, v_noexc, v_arg_p, v_arg_n, v_arg_o, v_arg_s]
    · split
      · exact absurd rfl h2
      · rfl
  obtain ⟨p, m, rfl⟩ : ∃ p m, parts = [p, m] := by
    match parts, h2 with
    | [p, m], _ => exact ⟨p, m, rfl⟩
  have hpp := hpl p (by simp)
  have hpm := hpl m (by simp)
  simp only [List.map_cons, List.map_nil] at S0 skip
  have hin : ∀ f : Bool → Out Rv, cmpR .In (.p (pt p)) (.p (.lst (namesC.map pt))) (M ++ [.lst (x.map .int)]) f = f (decide (p ∈ namesC)) := fun f => v_intx hpp names_plain
  have hin2 : ∀ f : Bool → Out Rv, cmpR .In (.p (pt m)) (.p (.lst (numsC.map pt))) (M ++ [.lst (x.map .int)]) f = f (decide (m ∈ numsC)) := fun f => v_intx hpm nums_plain
  have hnums : ((ups 1 15).map fun v => pt (TL.numL v.toNat)) = numsC.map pt := by unfold numsC; rw [List.map_map]; rfl
  have r16 : rngP [1, 16] = some ((ups 1 15).map .int) := rng_2 (by decide) (by decide) (by decide)
  have hC : evE (C ns d) (.comp (.bi .str (.var 9)) false [9] true [(.cst (.int 1)), (.cst (.int 16))] [] [9]) false (oE t o1 (some (.p (.lst (namesC.map pt)))) x3 (some (.o M.length)) (some (.p (pt w))) (some (.p (.lst [pt p, pt m])))) (M ++ [.lst (x.map .int)]) = .ok (.p (.lst (numsC.map pt))) (M ++ [.lst (x.map .int)]) := by
    generalize namesC.map pt = N at *
    simp only [r16, List.length_map, ups_len, downs_len, Int.cast_ofNat_Int, List.take_length, Nat.add_assoc, big, v_ix0, v_ix1, v_ix2, v_ix3, v_il0, v_il1, v_in0, v_in1, v_in2, v_tg2, v_sum_ti, v_sum_li, v_len_ti, v_eq_nil, v_ne_nil, v_eq_sd, v_ne_sd, tx_inj, v_in_li, v_eq_li, v_ne_li, v_eq_bd, v_ne_bd, eq_self, and_self, or_self, Int.reduceAdd, Int.reduceSub, Int.reduceMul, Int.reduceNeg, Int.reduceLT, Int.reduceLE, Int.reduceEq, Int.reduceNe, Nat.reduceLeDiff, Nat.reduceLT, decide_true, decide_false, Bool.not_not, ite_true, ite_false, Bool.true_eq_false, Bool.false_eq_true, Bool.and_true, Bool.true_and, Bool.and_false, Bool.false_and, Bool.or_true, Bool.true_or, Bool.or_false, Bool.false_or, Bool.false_eq_true, if_false, if_true, reduceIte, List.getElem?_cons_zero, List.getElem?_cons_succ, List.set_cons_zero, List.set_cons_succ, List.map_cons, List.map_nil, List.length_cons, List.length_nil, List.cons_append, List.nil_append, List.replicate_succ, List.replicate_zero, Nat.reduceAdd, Nat.reduceSub, Bool.not_true, Bool.not_false, decide_true, decide_false, Option.map_some, List.take_succ_cons, List.take_zero, v_g0, v_gk, v_s0, v_sk, v_tk, cl_isx, cl_sub, List.append_assoc, List.length_append, evSs, evS, evE, evAs, evFs, evIs, evB, evO, evIf, cl_scr, Out.bind_ok, Out.bind_exc, Out.bind_bad, R.wipe, v_onP_p, v_onP_n, v_onP_o, v_onP_f, v_int, v_bl, v_str, v_data, v_seq, v_obj, v_ix, v_of, v_retT, v_retT_b, v_retT_s, v_retT_l, v_retB, v_retB_b, v_add, v_sub, v_mul, v_mod, v_fdiv, v_pow, v_addl, v_addt, v_adds, v_mull, v_mult, v_lt, v_le, v_gt, v_ge, v_eq, v_ne, v_eqs, v_nes, v_isN, v_isNN, v_ltt, v_binR, v_frz_p, v_frz_n, v_pop_p, v_pop_n, v_sto_p, v_sto_n, v_sto_t, v_sto_o, v_lst, v_tup, v_lenR, v_len_s, v_bi_p, v_bi_n, v_bi_o, v_len_l, v_len_t, v_sum_l, v_sum_t, v_all, v_any, v_min_t, v_max_t, v_min_l, v_max_l, v_list_l, v_list_t, v_tuple_l, v_tuple_t, v_idx_t, v_idx_l, v_idx_n, v_idx_o, v_idx_s, v_tg1, v_app, v_seti, v_thn_n, v_thn_r, v_okB, v_noexc, v_arg_p, v_arg_n, v_arg_o, v_arg_s]
    rw [compL_int (f := fun p => pt (TL.numL p.toNat)) ?hh]
    case hh =>
      intro v hv
      obtain ⟨p1, p2⟩ := mem_ups.mp hv
      simp only [v_strint (i := v) (by omega) (by omega), List.length_map, ups_len, downs_len, Int.cast_ofNat_Int, List.take_length, Nat.add_assoc, big, v_ix0, v_ix1, v_ix2, v_ix3, v_il0, v_il1, v_in0, v_in1, v_in2, v_tg2, v_sum_ti, v_sum_li, v_len_ti, v_eq_nil, v_ne_nil, v_eq_sd, v_ne_sd, tx_inj, v_in_li, v_eq_li, v_ne_li, v_eq_bd, v_ne_bd, eq_self, and_self, or_self, Int.reduceAdd, Int.reduceSub, Int.reduceMul, Int.reduceNeg, Int.reduceLT, Int.reduceLE, Int.reduceEq, Int.reduceNe, Nat.reduceLeDiff, Nat.reduceLT, decide_true, decide_false, Bool.not_not, ite_true, ite_false, Bool.true_eq_false, Bool.false_eq_true, Bool.and_true, Bool.true_and, Bool.and_false, Bool.false_and, Bool.or_true, Bool.true_or, Bool.or_false, Bool.false_or, Bool.false_eq_true, if_false, if_true, reduceIte, List.getElem?_cons_zero, List.getElem?_cons_succ, List.set_cons_zero, List.set_cons_succ, List.map_cons, List.map_nil, List.length_cons, List.length_nil, List.cons_append, List.nil_append, List.replicate_succ, List.replicate_zero, Nat.reduceAdd, Nat.reduceSub, Bool.not_true, Bool.not_false, decide_true, decide_false, Option.map_some, List.take_succ_cons, List.take_zero, v_g0, v_gk, v_s0, v_sk, v_tk, cl_isx, cl_sub, List.append_assoc, List.length_append, evSs, evS, evE, evAs, evFs, evIs, evB, evO, evIf, cl_scr, Out.bind_ok, Out.bind_exc, Out.bind_bad, R.wipe, v_onP_p, v_onP_n, v_onP_o, v_onP_f, v_int, v_bl, v_str, v_data, v_seq, v_obj, v_ix, v_of, v_retT, v_retT_b, v_retT_s, v_retT_l, v_retB, v_retB_b, v_add, v_sub, v_mul, v_mod, v_fdiv, v_pow, v_addl, v_addt, v_adds, v_mull, v_mult, v_lt, v_le, v_gt, v_ge, v_eq, v_ne, v_eqs, v_nes, v_isN, v_isNN, v_ltt, v_binR, v_frz_p, v_frz_n, v_pop_p, v_pop_n, v_sto_p, v_sto_n, v_sto_t, v_sto_o, v_lst, v_tup, v_lenR, v_len_s, v_bi_p, v_bi_n, v_bi_o, v_len_l, v_len_t, v_sum_l, v_sum_t, v_all, v_any, v_min_t, v_max_t, v_min_l, v_max_l, v_list_l, v_list_t, v_tuple_l, v_tuple_t, v_idx_t, v_idx_l, v_idx_n, v_idx_o, v_idx_s, v_tg1, v_app, v_seti, v_thn_n, v_thn_r, v_okB, v_noexc, v_arg_p, v_arg_n, v_arg_o, v_arg_s]
    rw [hnums]
    rfl
  generalize hEC : (E.comp (.bi .str (.var 9)) false [9] true [(.cst (.int 1)), (.cst (.int 16))] [] [9]) = eC at *
  have s11 : s__law_board_of_2_1_1 = .ife (.boo true [(.cmp .Eq (.bi .len (.var 6)) (.cst (.int 2))), (.cmp .In (.idx (.var 6) (.cst (.int 0))) (.var 2)), (.cmp .In (.idx (.var 6) (.cst (.int 1))) eC)]) [s__law_board_of_2_1_1a_0] [] := by rw [← hEC]; rfl
  simp only
  cases hpi : placeIn p with
  | none =>
    have k1 : decide (p ∈ namesC) = false := decide_eq_false fun h => by
      have := mem_names.mp h
      rw [hpi] at this
      exact Bool.noConfusion this
    refine skip ?_ _ rfl
    rw [s11]
    generalize namesC.map pt = N at *
    simp only [hin, k1, List.length_map, ups_len, downs_len, Int.cast_ofNat_Int, List.take_length, Nat.add_assoc, big, v_ix0, v_ix1, v_ix2, v_ix3, v_il0, v_il1, v_in0, v_in1, v_in2, v_tg2, v_sum_ti, v_sum_li, v_len_ti, v_eq_nil, v_ne_nil, v_eq_sd, v_ne_sd, tx_inj, v_in_li, v_eq_li, v_ne_li, v_eq_bd, v_ne_bd, eq_self, and_self, or_self, Int.reduceAdd, Int.reduceSub, Int.reduceMul, Int.reduceNeg, Int.reduceLT, Int.reduceLE, Int.reduceEq, Int.reduceNe, Nat.reduceLeDiff, Nat.reduceLT, decide_true, decide_false, Bool.not_not, ite_true, ite_false, Bool.true_eq_false, Bool.false_eq_true, Bool.and_true, Bool.true_and, Bool.and_false, Bool.false_and, Bool.or_true, Bool.true_or, Bool.or_false, Bool.false_or, Bool.false_eq_true, if_false, if_true, reduceIte, List.getElem?_cons_zero, List.getElem?_cons_succ, List.set_cons_zero, List.set_cons_succ, List.map_cons, List.map_nil, List.length_cons, List.length_nil, List.cons_append, List.nil_append, List.replicate_succ, List.replicate_zero, Nat.reduceAdd, Nat.reduceSub, Bool.not_true, Bool.not_false, decide_true, decide_false, Option.map_some, List.take_succ_cons, List.take_zero, v_g0, v_gk, v_s0, v_sk, v_tk, cl_isx, cl_sub, List.append_assoc, List.length_append, evSs, evS, evE, evAs, evFs, evIs, evB, evO, evIf, cl_scr, Out.bind_ok, Out.bind_exc, Out.bind_bad, R.wipe, v_onP_p, v_onP_n, v_onP_o, v_onP_f, v_int, v_bl, v_str, v_data, v_seq, v_obj, v_ix, v_of, v_retT, v_retT_b, v_retT_s, v_retT_l, v_retB, v_retB_b, v_add, v_sub, v_mul, v_mod, v_fdiv, v_pow, v_addl, v_addt, v_adds, v_mull, v_mult, v_lt, v_le, v_gt, v_ge, v_eq, v_ne, v_eqs, v_nes, v_isN, v_isNN, v_ltt, v_binR, v_frz_p, v_frz_n, v_pop_p, v_pop_n, v_sto_p, v_sto_n, v_sto_t, v_sto_o, v_lst, v_tup, v_lenR, v_len_s, v_bi_p, v_bi_n, v_bi_o, v_len_l, v_len_t, v_sum_l, v_sum_t, v_all, v_any, v_min_t, v_max_t, v_min_l, v_max_l, v_list_l, v_list_t, v_tuple_l, v_tuple_t, v_idx_t, v_idx_l, v_idx_n, v_idx_o, v_idx_s, v_tg1, v_app, v_seti, v_thn_n, v_thn_r, v_okB, v_noexc, v_arg_p, v_arg_n, v_arg_o, v_arg_s]
  | some q =>
    have k1 : decide (p ∈ namesC) = true := decide_eq_true (mem_names.mpr (by rw [hpi]; rfl))
    simp only
    cases hni : numIn m 15 with
    | none =>
      have k2 : decide (m ∈ numsC) = false := decide_eq_false fun h => by
        have := mem_nums.mp h
        rw [hni] at this
        exact Bool.noConfusion this
      refine skip ?_ _ rfl
      rw [s11]
      generalize namesC.map pt = N at *
      generalize numsC.map pt = N2 at *
      simp only [hin, k1, hC, hin2, k2, List.length_map, ups_len, downs_len, Int.cast_ofNat_Int, List.take_length, Nat.add_assoc, big, v_ix0, v_ix1, v_ix2, v_ix3, v_il0, v_il1, v_in0, v_in1, v_in2, v_tg2, v_sum_ti, v_sum_li, v_len_ti, v_eq_nil, v_ne_nil, v_eq_sd, v_ne_sd, tx_inj, v_in_li, v_eq_li, v_ne_li, v_eq_bd, v_ne_bd, eq_self, and_self, or_self, Int.reduceAdd, Int.reduceSub, Int.reduceMul, Int.reduceNeg, Int.reduceLT, Int.reduceLE, Int.reduceEq, Int.reduceNe, Nat.reduceLeDiff, Nat.reduceLT, decide_true, decide_false, Bool.not_not, ite_true, ite_false, Bool.true_eq_false, Bool.false_eq_true, Bool.and_true, Bool.true_and, Bool.and_false, Bool.false_and, Bool.or_true, Bool.true_or, Bool.or_false, Bool.false_or, Bool.false_eq_true, if_false, if_true, reduceIte, List.getElem?_cons_zero, List.getElem?_cons_succ, List.set_cons_zero, List.set_cons_succ, List.map_cons, List.map_nil, List.length_cons, List.length_nil, List.cons_append, List.nil_append, List.replicate_succ, List.replicate_zero, Nat.reduceAdd, Nat.reduceSub, Bool.not_true, Bool.not_false, decide_true, decide_false, Option.map_some, List.take_succ_cons, List.take_zero, v_g0, v_gk, v_s0, v_sk, v_tk, cl_isx, cl_sub, List.append_assoc, List.length_append, evSs, evS, evE, evAs, evFs, evIs, evB, evO, evIf, cl_scr, Out.bind_ok, Out.bind_exc, Out.bind_bad, R.wipe, v_onP_p, v_onP_n, v_onP_o, v_onP_f, v_int, v_bl, v_str, v_data, v_seq, v_obj, v_ix, v_of, v_retT, v_retT_b, v_retT_s, v_retT_l, v_retB, v_retB_b, v_add, v_sub, v_mul, v_mod, v_fdiv, v_pow, v_addl, v_addt, v_adds, v_mull, v_mult, v_lt, v_le, v_gt, v_ge, v_eq, v_ne, v_eqs, v_nes, v_isN, v_isNN, v_ltt, v_binR, v_frz_p, v_frz_n, v_pop_p, v_pop_n, v_sto_p, v_sto_n, v_sto_t, v_sto_o, v_lst, v_tup, v_lenR, v_len_s, v_bi_p, v_bi_n, v_bi_o, v_len_l, v_len_t, v_sum_l, v_sum_t, v_all, v_any, v_min_t, v_max_t, v_min_l, v_max_l, v_list_l, v_list_t, v_tuple_l, v_tuple_t, v_idx_t, v_idx_l, v_idx_n, v_idx_o, v_idx_s, v_tg1, v_app, v_seti, v_thn_n, v_thn_r, v_okB, v_noexc, v_arg_p, v_arg_n, v_arg_o, v_arg_s]
    | some v =>
      have k2 : decide (m ∈ numsC) = true := decide_eq_true (mem_nums.mpr (by rw [hni]; rfl))
      obtain ⟨ep, q0, q1⟩ := placeIn_text hpi
      have hx := names_ix q.toNat (by omega)
      rw [Int.toNat_of_nonneg q0, ← ep] at hx
      have hix := lm_ix hpp names_plain hx
      rw [Int.toNat_of_nonneg q0] at hix
      have hint := numIn_digs hni
      have hk : (M ++ [MO.lst (x.map .int)])[M.length]? = some (.lst (x.map .int)) := by rw [v_g0]; rfl
      have g : ∀ ρ : Env, setiR (.p (.int v)) (.o M.length) (.p (.int q)) ρ (M ++ [.lst (x.map .int)]) = .ok (.nx ρ) (M ++ [.lst ((si x q v).map .int)]) := fun ρ => by
        rw [v_ssi hk q0 (by omega), v_s0]; rfl
      have A : evS (C ns d) s__law_board_of_2_1_1a_0 (oE t o1 (some (.p (.lst (namesC.map pt)))) x3 (some (.o M.length)) (some (.p (pt w))) (some (.p (.lst [pt p, pt m])))) (M ++ [.lst (x.map .int)]) = .ok (.nx (oE t o1 (some (.p (.lst (namesC.map pt)))) x3 (some (.o M.length)) (some (.p (pt w))) (some (.p (.lst [pt p, pt m]))))) (M ++ [.lst ((si x q v).map .int)]) := by
        generalize namesC.map pt = N at *
        simp only [s__law_board_of_2_1_1a_0, hint, hix, g, v_seq, List.length_map, ups_len, downs_len, Int.cast_ofNat_Int, List.take_length, Nat.add_assoc, big, v_ix0, v_ix1, v_ix2, v_ix3, v_il0, v_il1, v_in0, v_in1, v_in2, v_tg2, v_sum_ti, v_sum_li, v_len_ti, v_eq_nil, v_ne_nil, v_eq_sd, v_ne_sd, tx_inj, v_in_li, v_eq_li, v_ne_li, v_eq_bd, v_ne_bd, eq_self, and_self, or_self, Int.reduceAdd, Int.reduceSub, Int.reduceMul, Int.reduceNeg, Int.reduceLT, Int.reduceLE, Int.reduceEq, Int.reduceNe, Nat.reduceLeDiff, Nat.reduceLT, decide_true, decide_false, Bool.not_not, ite_true, ite_false, Bool.true_eq_false, Bool.false_eq_true, Bool.and_true, Bool.true_and, Bool.and_false, Bool.false_and, Bool.or_true, Bool.true_or, Bool.or_false, Bool.false_or, Bool.false_eq_true, if_false, if_true, reduceIte, List.getElem?_cons_zero, List.getElem?_cons_succ, List.set_cons_zero, List.set_cons_succ, List.map_cons, List.map_nil, List.length_cons, List.length_nil, List.cons_append, List.nil_append, List.replicate_succ, List.replicate_zero, Nat.reduceAdd, Nat.reduceSub, Bool.not_true, Bool.not_false, decide_true, decide_false, Option.map_some, List.take_succ_cons, List.take_zero, v_g0, v_gk, v_s0, v_sk, v_tk, cl_isx, cl_sub, List.append_assoc, List.length_append, evSs, evS, evE, evAs, evFs, evIs, evB, evO, evIf, cl_scr, Out.bind_ok, Out.bind_exc, Out.bind_bad, R.wipe, v_onP_p, v_onP_n, v_onP_o, v_onP_f, v_int, v_bl, v_str, v_data, v_seq, v_obj, v_ix, v_of, v_retT, v_retT_b, v_retT_s, v_retT_l, v_retB, v_retB_b, v_add, v_sub, v_mul, v_mod, v_fdiv, v_pow, v_addl, v_addt, v_adds, v_mull, v_mult, v_lt, v_le, v_gt, v_ge, v_eq, v_ne, v_eqs, v_nes, v_isN, v_isNN, v_ltt, v_binR, v_frz_p, v_frz_n, v_pop_p, v_pop_n, v_sto_p, v_sto_n, v_sto_t, v_sto_o, v_lst, v_tup, v_lenR, v_len_s, v_bi_p, v_bi_n, v_bi_o, v_len_l, v_len_t, v_sum_l, v_sum_t, v_all, v_any, v_min_t, v_max_t, v_min_l, v_max_l, v_list_l, v_list_t, v_tuple_l, v_tuple_t, v_idx_t, v_idx_l, v_idx_n, v_idx_o, v_idx_s, v_tg1, v_app, v_seti, v_thn_n, v_thn_r, v_okB, v_noexc, v_arg_p, v_arg_n, v_arg_o, v_arg_s]
      have S1 : evS (C ns d) s__law_board_of_2_1_1 (oE t o1 (some (.p (.lst (namesC.map pt)))) x3 (some (.o M.length)) (some (.p (pt w))) (some (.p (.lst [pt p, pt m])))) (M ++ [.lst (x.map .int)]) = .ok (.nx (oE t o1 (some (.p (.lst (namesC.map pt)))) x3 (some (.o M.length)) (some (.p (pt w))) (some (.p (.lst [pt p, pt m]))))) (M ++ [.lst ((si x q v).map .int)]) := by
        rw [s11]
        generalize namesC.map pt = N at *
        generalize numsC.map pt = N2 at *
        have T : evE (C ns d) (.boo true [(.cmp .Eq (.bi .len (.var 6)) (.cst (.int 2))), (.cmp .In (.idx (.var 6) (.cst (.int 0))) (.var 2)), (.cmp .In (.idx (.var 6) (.cst (.int 1))) eC)]) true (oE t o1 (some (.p (.lst N))) x3 (some (.o M.length)) (some (.p (pt w))) (some (.p (.lst [pt p, pt m])))) (M ++ [.lst (x.map .int)]) = .ok (.p (.bl true)) (M ++ [.lst (x.map .int)]) := by
          simp only [hin, k1, hC, hin2, k2, List.length_map, ups_len, downs_len, Int.cast_ofNat_Int, List.take_length, Nat.add_assoc, big, v_ix0, v_ix1, v_ix2, v_ix3, v_il0, v_il1, v_in0, v_in1, v_in2, v_tg2, v_sum_ti, v_sum_li, v_len_ti, v_eq_nil, v_ne_nil, v_eq_sd, v_ne_sd, tx_inj, v_in_li, v_eq_li, v_ne_li, v_eq_bd, v_ne_bd, eq_self, and_self, or_self, Int.reduceAdd, Int.reduceSub, Int.reduceMul, Int.reduceNeg, Int.reduceLT, Int.reduceLE, Int.reduceEq, Int.reduceNe, Nat.reduceLeDiff, Nat.reduceLT, decide_true, decide_false, Bool.not_not, ite_true, ite_false, Bool.true_eq_false, Bool.false_eq_true, Bool.and_true, Bool.true_and, Bool.and_false, Bool.false_and, Bool.or_true, Bool.true_or, Bool.or_false, Bool.false_or, Bool.false_eq_true, if_false, if_true, reduceIte, List.getElem?_cons_zero, List.getElem?_cons_succ, List.set_cons_zero, List.set_cons_succ, List.map_cons, List.map_nil, List.length_cons, List.length_nil, List.cons_append, List.nil_append, List.replicate_succ, List.replicate_zero, Nat.reduceAdd, Nat.reduceSub, Bool.not_true, Bool.not_false, decide_true, decide_false, Option.map_some, List.take_succ_cons, List.take_zero, v_g0, v_gk, v_s0, v_sk, v_tk, cl_isx, cl_sub, List.append_assoc, List.length_append, evSs, evS, evE, evAs, evFs, evIs, evB, evO, evIf, cl_scr, Out.bind_ok, Out.bind_exc, Out.bind_bad, R.wipe, v_onP_p, v_onP_n, v_onP_o, v_onP_f, v_int, v_bl, v_str, v_data, v_seq, v_obj, v_ix, v_of, v_retT, v_retT_b, v_retT_s, v_retT_l, v_retB, v_retB_b, v_add, v_sub, v_mul, v_mod, v_fdiv, v_pow, v_addl, v_addt, v_adds, v_mull, v_mult, v_lt, v_le, v_gt, v_ge, v_eq, v_ne, v_eqs, v_nes, v_isN, v_isNN, v_ltt, v_binR, v_frz_p, v_frz_n, v_pop_p, v_pop_n, v_sto_p, v_sto_n, v_sto_t, v_sto_o, v_lst, v_tup, v_lenR, v_len_s, v_bi_p, v_bi_n, v_bi_o, v_len_l, v_len_t, v_sum_l, v_sum_t, v_all, v_any, v_min_t, v_max_t, v_min_l, v_max_l, v_list_l, v_list_t, v_tuple_l, v_tuple_t, v_idx_t, v_idx_l, v_idx_n, v_idx_o, v_idx_s, v_tg1, v_app, v_seti, v_thn_n, v_thn_r, v_okB, v_noexc, v_arg_p, v_arg_n, v_arg_o, v_arg_s]
        simp only [evS, T, Out.bind_ok, v_bl, if_true, evSs, A, v_thn_n]
      exact ⟨_, (ss_next S0).trans ((ss_next S1).trans rfl)⟩
def orNone (x : Option Bd) : P := match x with
  | some b => encB b
  | none => .non
theorem fn_board_of (ns : List Int) (d : Nat) (t : List Nat) (ht : t.length ≤ 900) (hp : plainT t = true) (μ : Mu) : (C ns (d + 2)).fn 18 [.p (pt t)] μ = .ok (.p (orNone (readB t))) μ := by
  rw [cl_fn (f := f__law_board_of) rfl, ← lawB_is]
  have n1 : binP .Add (.lst [pt [111, 102, 102]]) (.lst ((ups 1 24).map fun p => pt (TL.numL p.toNat))) = some (.n (pt [111, 102, 102] :: ((ups 1 24).map fun p => pt (TL.numL p.toNat)))) := v_addl (by rw [List.length_map, ups_len]; decide)
  have n2 : binP .Add (.lst (pt [111, 102, 102] :: ((ups 1 24).map fun p => pt (TL.numL p.toNat)))) (.lst [pt [98, 97, 114]]) = some (.n (namesC.map pt)) := by
    rw [v_addl (by rw [List.length_cons, List.length_map, ups_len]; decide), ← names_is]; rfl
  have S0 : evS (C ns (d + 1)) s__law_board_of_0 [some (.p (pt t)), none, none, none, none, none, none, none, none, none] μ = .ok (.nx [some (.p (pt t)), some (.o μ.length), none, none, none, none, none, none, none, none]) (μ ++ [.lst []]) := by
    simp only [s__law_board_of_0, List.length_map, ups_len, downs_len, Int.cast_ofNat_Int, List.take_length, Nat.add_assoc, big, v_ix0, v_ix1, v_ix2, v_ix3, v_il0, v_il1, v_in0, v_in1, v_in2, v_tg2, v_sum_ti, v_sum_li, v_len_ti, v_eq_nil, v_ne_nil, v_eq_sd, v_ne_sd, tx_inj, v_in_li, v_eq_li, v_ne_li, v_eq_bd, v_ne_bd, eq_self, and_self, or_self, Int.reduceAdd, Int.reduceSub, Int.reduceMul, Int.reduceNeg, Int.reduceLT, Int.reduceLE, Int.reduceEq, Int.reduceNe, Nat.reduceLeDiff, Nat.reduceLT, decide_true, decide_false, Bool.not_not, ite_true, ite_false, Bool.true_eq_false, Bool.false_eq_true, Bool.and_true, Bool.true_and, Bool.and_false, Bool.false_and, Bool.or_true, Bool.true_or, Bool.or_false, Bool.false_or, Bool.false_eq_true, if_false, if_true, reduceIte, List.getElem?_cons_zero, List.getElem?_cons_succ, List.set_cons_zero, List.set_cons_succ, List.map_cons, List.map_nil, List.length_cons, List.length_nil, List.cons_append, List.nil_append, List.replicate_succ, List.replicate_zero, Nat.reduceAdd, Nat.reduceSub, Bool.not_true, Bool.not_false, decide_true, decide_false, Option.map_some, List.take_succ_cons, List.take_zero, v_g0, v_gk, v_s0, v_sk, v_tk, cl_isx, cl_sub, List.append_assoc, List.length_append, evSs, evS, evE, evAs, evFs, evIs, evB, evO, evIf, cl_scr, Out.bind_ok, Out.bind_exc, Out.bind_bad, R.wipe, v_onP_p, v_onP_n, v_onP_o, v_onP_f, v_int, v_bl, v_str, v_data, v_seq, v_obj, v_ix, v_of, v_retT, v_retT_b, v_retT_s, v_retT_l, v_retB, v_retB_b, v_add, v_sub, v_mul, v_mod, v_fdiv, v_pow, v_addl, v_addt, v_adds, v_mull, v_mult, v_lt, v_le, v_gt, v_ge, v_eq, v_ne, v_eqs, v_nes, v_isN, v_isNN, v_ltt, v_binR, v_frz_p, v_frz_n, v_pop_p, v_pop_n, v_sto_p, v_sto_n, v_sto_t, v_sto_o, v_lst, v_tup, v_lenR, v_len_s, v_bi_p, v_bi_n, v_bi_o, v_len_l, v_len_t, v_sum_l, v_sum_t, v_all, v_any, v_min_t, v_max_t, v_min_l, v_max_l, v_list_l, v_list_t, v_tuple_l, v_tuple_t, v_idx_t, v_idx_l, v_idx_n, v_idx_o, v_idx_s, v_tg1, v_app, v_seti, v_thn_n, v_thn_r, v_okB, v_noexc, v_arg_p, v_arg_n, v_arg_o, v_arg_s]
  have S1 : evS (C ns (d + 1)) s__law_board_of_1 [some (.p (pt t)), some (.o μ.length), none, none, none, none, none, none, none, none] (μ ++ [.lst []]) = .ok (.nx (oE (pt t) μ.length (some (.p (.lst (namesC.map pt)))) none none none none)) (μ ++ [.lst []]) := by
    simp only [s__law_board_of_1, l_off, l_bar, rng_1_25, List.length_map, ups_len, downs_len, Int.cast_ofNat_Int, List.take_length, Nat.add_assoc, big, v_ix0, v_ix1, v_ix2, v_ix3, v_il0, v_il1, v_in0, v_in1, v_in2, v_tg2, v_sum_ti, v_sum_li, v_len_ti, v_eq_nil, v_ne_nil, v_eq_sd, v_ne_sd, tx_inj, v_in_li, v_eq_li, v_ne_li, v_eq_bd, v_ne_bd, eq_self, and_self, or_self, Int.reduceAdd, Int.reduceSub, Int.reduceMul, Int.reduceNeg, Int.reduceLT, Int.reduceLE, Int.reduceEq, Int.reduceNe, Nat.reduceLeDiff, Nat.reduceLT, decide_true, decide_false, Bool.not_not, ite_true, ite_false, Bool.true_eq_false, Bool.false_eq_true, Bool.and_true, Bool.true_and, Bool.and_false, Bool.false_and, Bool.or_true, Bool.true_or, Bool.or_false, Bool.false_or, Bool.false_eq_true, if_false, if_true, reduceIte, List.getElem?_cons_zero, List.getElem?_cons_succ, List.set_cons_zero, List.set_cons_succ, List.map_cons, List.map_nil, List.length_cons, List.length_nil, List.cons_append, List.nil_append, List.replicate_succ, List.replicate_zero, Nat.reduceAdd, Nat.reduceSub, Bool.not_true, Bool.not_false, decide_true, decide_false, Option.map_some, List.take_succ_cons, List.take_zero, v_g0, v_gk, v_s0, v_sk, v_tk, cl_isx, cl_sub, List.append_assoc, List.length_append, evSs, evS, evE, evAs, evFs, evIs, evB, evO, evIf, cl_scr, Out.bind_ok, Out.bind_exc, Out.bind_bad, R.wipe, v_onP_p, v_onP_n, v_onP_o, v_onP_f, v_int, v_bl, v_str, v_data, v_seq, v_obj, v_ix, v_of, v_retT, v_retT_b, v_retT_s, v_retT_l, v_retB, v_retB_b, v_add, v_sub, v_mul, v_mod, v_fdiv, v_pow, v_addl, v_addt, v_adds, v_mull, v_mult, v_lt, v_le, v_gt, v_ge, v_eq, v_ne, v_eqs, v_nes, v_isN, v_isNN, v_ltt, v_binR, v_frz_p, v_frz_n, v_pop_p, v_pop_n, v_sto_p, v_sto_n, v_sto_t, v_sto_o, v_lst, v_tup, v_lenR, v_len_s, v_bi_p, v_bi_n, v_bi_o, v_len_l, v_len_t, v_sum_l, v_sum_t, v_all, v_any, v_min_t, v_max_t, v_min_l, v_max_l, v_list_l, v_list_t, v_tuple_l, v_tuple_t, v_idx_t, v_idx_l, v_idx_n, v_idx_o, v_idx_s, v_tg1, v_app, v_seti, v_thn_n, v_thn_r, v_okB, v_noexc, v_arg_p, v_arg_n, v_arg_o, v_arg_s]
    rw [compL_int (f := fun p => pt (TL.numL p.toNat)) ?hh]
    case hh =>
      intro p hp
      obtain ⟨p1, p2⟩ := mem_ups.mp hp
      simp only [v_strint (i := p) (by omega) (by omega), List.length_map, ups_len, downs_len, Int.cast_ofNat_Int, List.take_length, Nat.add_assoc, big, v_ix0, v_ix1, v_ix2, v_ix3, v_il0, v_il1, v_in0, v_in1, v_in2, v_tg2, v_sum_ti, v_sum_li, v_len_ti, v_eq_nil, v_ne_nil, v_eq_sd, v_ne_sd, tx_inj, v_in_li, v_eq_li, v_ne_li, v_eq_bd, v_ne_bd, eq_self, and_self, or_self, Int.reduceAdd, Int.reduceSub, Int.reduceMul, Int.reduceNeg, Int.reduceLT, Int.reduceLE, Int.reduceEq, Int.reduceNe, Nat.reduceLeDiff, Nat.reduceLT, decide_true, decide_false, Bool.not_not, ite_true, ite_false, Bool.true_eq_false, Bool.false_eq_true, Bool.and_true, Bool.true_and, Bool.and_false, Bool.false_and, Bool.or_true, Bool.true_or, Bool.or_false, Bool.false_or, Bool.false_eq_true, if_false, if_true, reduceIte, List.getElem?_cons_zero, List.getElem?_cons_succ, List.set_cons_zero, List.set_cons_succ, List.map_cons, List.map_nil, List.length_cons, List.length_nil, List.cons_append, List.nil_append, List.replicate_succ, List.replicate_zero, Nat.reduceAdd, Nat.reduceSub, Bool.not_true, Bool.not_false, decide_true, decide_false, Option.map_some, List.take_succ_cons, List.take_zero, v_g0, v_gk, v_s0, v_sk, v_tk, cl_isx, cl_sub, List.append_assoc, List.length_append, evSs, evS, evE, evAs, evFs, evIs, evB, evO, evIf, cl_scr, Out.bind_ok, Out.bind_exc, Out.bind_bad, R.wipe, v_onP_p, v_onP_n, v_onP_o, v_onP_f, v_int, v_bl, v_str, v_data, v_seq, v_obj, v_ix, v_of, v_retT, v_retT_b, v_retT_s, v_retT_l, v_retB, v_retB_b, v_add, v_sub, v_mul, v_mod, v_fdiv, v_pow, v_addl, v_addt, v_adds, v_mull, v_mult, v_lt, v_le, v_gt, v_ge, v_eq, v_ne, v_eqs, v_nes, v_isN, v_isNN, v_ltt, v_binR, v_frz_p, v_frz_n, v_pop_p, v_pop_n, v_sto_p, v_sto_n, v_sto_t, v_sto_o, v_lst, v_tup, v_lenR, v_len_s, v_bi_p, v_bi_n, v_bi_o, v_len_l, v_len_t, v_sum_l, v_sum_t, v_all, v_any, v_min_t, v_max_t, v_min_l, v_max_l, v_list_l, v_list_t, v_tuple_l, v_tuple_t, v_idx_t, v_idx_l, v_idx_n, v_idx_o, v_idx_s, v_tg1, v_app, v_seti, v_thn_n, v_thn_r, v_okB, v_noexc, v_arg_p, v_arg_n, v_arg_o, v_arg_s]
    generalize (ups 1 24).map (fun p => pt (TL.numL p.toNat)) = Q at *
    generalize namesC.map pt = N at *
    simp only [n1, n2, Bool.false_eq_true, if_false, if_true, reduceIte, List.getElem?_cons_zero, List.getElem?_cons_succ, List.set_cons_zero, List.set_cons_succ, List.map_cons, List.map_nil, List.length_cons, List.length_nil, List.cons_append, List.nil_append, List.replicate_succ, List.replicate_zero, Nat.reduceAdd, Nat.reduceSub, Bool.not_true, Bool.not_false, decide_true, decide_false, Option.map_some, List.take_succ_cons, List.take_zero, v_g0, v_gk, v_s0, v_sk, v_tk, cl_isx, cl_sub, List.append_assoc, List.length_append, evSs, evS, evE, evAs, evFs, evIs, evB, evO, evIf, cl_scr, Out.bind_ok, Out.bind_exc, Out.bind_bad, R.wipe, v_onP_p, v_onP_n, v_onP_o, v_onP_f, v_int, v_bl, v_str, v_data, v_seq, v_obj, v_ix, v_of, v_retT, v_retT_b, v_retT_s, v_retT_l, v_retB, v_retB_b, v_add, v_sub, v_mul, v_mod, v_fdiv, v_pow, v_addl, v_addt, v_adds, v_mull, v_mult, v_lt, v_le, v_gt, v_ge, v_eq, v_ne, v_eqs, v_nes, v_isN, v_isNN, v_ltt, v_binR, v_frz_p, v_frz_n, v_pop_p, v_pop_n, v_sto_p, v_sto_n, v_sto_t, v_sto_o, v_lst, v_tup, v_lenR, v_len_s, v_bi_p, v_bi_n, v_bi_o, v_len_l, v_len_t, v_sum_l, v_sum_t, v_all, v_any, v_min_t, v_max_t, v_min_l, v_max_l, v_list_l, v_list_t, v_tuple_l, v_tuple_t, v_idx_t, v_idx_l, v_idx_n, v_idx_o, v_idx_s, v_tg1, v_app, v_seti, v_thn_n, v_thn_r, v_okB, v_noexc, v_arg_p, v_arg_n, v_arg_o, v_arg_s]
  have hs := v_split (a := t) (b := sepC) (by simp [sepC]) (by decide) (by show _ ≤ 1000000; omega)
  have hss : ∀ p ∈ TL.spl sepC 0 [] t, p.length ≤ 900 ∧ plainT p = true := fun p hp' => ⟨Nat.le_trans (splS_short hp') ht, plain_spl hp hp'⟩
  have hsl := spl_len (S := sepC) t.length t [] (Nat.le_refl _)
  have ls : Str.ofString " | " = tx sepC := l_sep
  unfold lawB
  generalize TL.spl sepC 0 [] t = parts at *
  have hm : meR .split (tx t) (.p (pt sepC)) (μ ++ [.lst []]) = .ok (.n (parts.map pt)) (μ ++ [.lst []]) := by simp only [meR, v_onP_p, hs, v_of]
  have hflat : parts.flatMap (fun p => [sd (lenS p)]) = parts.map fun p => sd (lenS p) := by
    generalize parts = l
    induction l with
    | nil => rfl
    | cons x l ih => rw [List.flatMap_cons, ih]; rfl
  obtain ⟨ρ', μ', e, L, rfl, x3, x4, x5, x6, rfl⟩ := forL_acc (body := fun d_1 ρ μ_1 => tgR false [3] d_1 ρ fun ρ1 => evSs (C ns (d + 1)) [s__law_board_of_2_0, s__law_board_of_2_1, s__law_board_of_2_2] ρ1 μ_1) (g := pt) (G := fun p => [sd (lenS p)]) (N := 2000) (fun F ρ μ' => ∃ L, μ' = μ ++ (.lst F :: L) ∧ ∃ x3 x4 x5 x6, ρ = oE (pt t) μ.length (some (.p (.lst (namesC.map pt)))) x3 x4 x5 x6) parts [] (by rw [List.nil_append, hflat, List.length_map]; omega) (by
    rintro p hp' F ρ μ1 ⟨L, rfl, x3, x4, x5, x6, rfl⟩ hF
    obtain ⟨pl, pp⟩ := hss p hp'
    rw [List.length_append] at hF
    simp only [List.length_cons, List.length_nil] at hF
    have m26 := mul_26
    have hsp := v_split (a := p) (b := [32]) (by simp) (by decide) (by show _ ≤ 1000000; omega)
    have hws : ∀ w ∈ TL.spl [32] 0 [] p, w.length ≤ 900 ∧ plainT w = true := fun w hw => ⟨Nat.le_trans (spl_short hw) pl, plain_spl pp hw⟩
    generalize hM : μ ++ (MO.lst F :: L) = M at *
    have A0 : evS (C ns (d + 1)) s__law_board_of_2_0 (oE (pt t) μ.length (some (.p (.lst (namesC.map pt)))) (some (.p (pt p))) x4 x5 x6) M = .ok (.nx (oE (pt t) μ.length (some (.p (.lst (namesC.map pt)))) (some (.p (pt p))) (some (.o M.length)) x5 x6)) (M ++ [.lst ((List.replicate 26 (0 : Int)).map .int)]) := by
      generalize namesC.map pt = N at *
      generalize List.replicate 26 (0 : Int) = z at *
      simp only [s__law_board_of_2_0, m26, List.length_map, ups_len, downs_len, Int.cast_ofNat_Int, List.take_length, Nat.add_assoc, big, v_ix0, v_ix1, v_ix2, v_ix3, v_il0, v_il1, v_in0, v_in1, v_in2, v_tg2, v_sum_ti, v_sum_li, v_len_ti, v_eq_nil, v_ne_nil, v_eq_sd, v_ne_sd, tx_inj, v_in_li, v_eq_li, v_ne_li, v_eq_bd, v_ne_bd, eq_self, and_self, or_self, Int.reduceAdd, Int.reduceSub, Int.reduceMul, Int.reduceNeg, Int.reduceLT, Int.reduceLE, Int.reduceEq, Int.reduceNe, Nat.reduceLeDiff, Nat.reduceLT, decide_true, decide_false, Bool.not_not, ite_true, ite_false, Bool.true_eq_false, Bool.false_eq_true, Bool.and_true, Bool.true_and, Bool.and_false, Bool.false_and, Bool.or_true, Bool.true_or, Bool.or_false, Bool.false_or, Bool.false_eq_true, if_false, if_true, reduceIte, List.getElem?_cons_zero, List.getElem?_cons_succ, List.set_cons_zero, List.set_cons_succ, List.map_cons, List.map_nil, List.length_cons, List.length_nil, List.cons_append, List.nil_append, List.replicate_succ, List.replicate_zero, Nat.reduceAdd, Nat.reduceSub, Bool.not_true, Bool.not_false, decide_true, decide_false, Option.map_some, List.take_succ_cons, List.take_zero, v_g0, v_gk, v_s0, v_sk, v_tk, cl_isx, cl_sub, List.append_assoc, List.length_append, evSs, evS, evE, evAs, evFs, evIs, evB, evO, evIf, cl_scr, Out.bind_ok, Out.bind_exc, Out.bind_bad, R.wipe, v_onP_p, v_onP_n, v_onP_o, v_onP_f, v_int, v_bl, v_str, v_data, v_seq, v_obj, v_ix, v_of, v_retT, v_retT_b, v_retT_s, v_retT_l, v_retB, v_retB_b, v_add, v_sub, v_mul, v_mod, v_fdiv, v_pow, v_addl, v_addt, v_adds, v_mull, v_mult, v_lt, v_le, v_gt, v_ge, v_eq, v_ne, v_eqs, v_nes, v_isN, v_isNN, v_ltt, v_binR, v_frz_p, v_frz_n, v_pop_p, v_pop_n, v_sto_p, v_sto_n, v_sto_t, v_sto_o, v_lst, v_tup, v_lenR, v_len_s, v_bi_p, v_bi_n, v_bi_o, v_len_l, v_len_t, v_sum_l, v_sum_t, v_all, v_any, v_min_t, v_max_t, v_min_l, v_max_l, v_list_l, v_list_t, v_tuple_l, v_tuple_t, v_idx_t, v_idx_l, v_idx_n, v_idx_o, v_idx_s, v_tg1, v_app, v_seti, v_thn_n, v_thn_r, v_okB, v_noexc, v_arg_p, v_arg_n, v_arg_o, v_arg_s]
    have hmm : ∀ M' : Mu, meR .split (tx p) (.p (pt [32])) M' = .ok (.n ((TL.spl [32] 0 [] p).map pt)) M' := fun M' => by simp only [meR, v_onP_p, hsp, v_of]
    have A1 : ∃ y5 y6, evS (C ns (d + 1)) s__law_board_of_2_1 (oE (pt t) μ.length (some (.p (.lst (namesC.map pt)))) (some (.p (pt p))) (some (.o M.length)) x5 x6) (M ++ [.lst ((List.replicate 26 (0 : Int)).map .int)]) = .ok (.nx (oE (pt t) μ.length (some (.p (.lst (namesC.map pt)))) (some (.p (pt p))) (some (.o M.length)) y5 y6)) (M ++ [.lst ((lenS p).map .int)]) := by
      unfold lenS
      have hloop : evS (C ns (d + 1)) s__law_board_of_2_1 (oE (pt t) μ.length (some (.p (.lst (namesC.map pt)))) (some (.p (pt p))) (some (.o M.length)) x5 x6) (M ++ [.lst ((List.replicate 26 (0 : Int)).map .int)]) = forL (fun d_1 ρ μ_1 => tgR false [5] d_1 ρ fun ρ1 => evSs (C ns (d + 1)) [s__law_board_of_2_1_0, s__law_board_of_2_1_1] ρ1 μ_1) ((TL.spl [32] 0 [] p).map pt) (oE (pt t) μ.length (some (.p (.lst (namesC.map pt)))) (some (.p (pt p))) (some (.o M.length)) x5 x6) (M ++ [.lst ((List.replicate 26 (0 : Int)).map .int)]) := by
        simp only [s__law_board_of_2_1, evS, evE, evFs, l_sp, v_retT, v_retB, Out.bind_ok, v_str, hmm, v_frz_n, itemsP, v_of, List.getElem?_cons_zero, List.getElem?_cons_succ, Bool.false_eq_true, if_false]
      obtain ⟨ρ', μ', e, lz, rfl, y5, y6, rfl⟩ := forL_fold (body := fun d_1 ρ μ_1 => tgR false [5] d_1 ρ fun ρ1 => evSs (C ns (d + 1)) [s__law_board_of_2_1_0, s__law_board_of_2_1_1] ρ1 μ_1) (g := pt) (fun (x : List Int) ρ μ' => x.length = 26 ∧ μ' = M ++ [.lst (x.map .int)] ∧ ∃ x5 x6, ρ = oE (pt t) μ.length (some (.p (.lst (namesC.map pt)))) (some (.p (pt p))) (some (.o M.length)) x5 x6) lenStep (TL.spl [32] 0 [] p) (List.replicate 26 0) (by
        rintro w hw x ρ μ1 ⟨lx, rfl, x5, x6, rfl⟩
        obtain ⟨x6', e⟩ := of_word ns (d + 1) (pt t) μ.length (some (.p (pt p))) M w (hws w hw).1 (hws w hw).2 x lx x6
        refine ⟨oE (pt t) μ.length (some (.p (.lst (namesC.map pt)))) (some (.p (pt p))) (some (.o M.length)) (some (.p (pt w))) x6', _, ?_, by rw [lenStep_len]; exact lx, rfl, _, _, rfl⟩
        simp only [v_tg1, List.set_cons_succ, List.set_cons_zero, e]) _ _ ⟨by rw [List.length_replicate], rfl, x5, x6, rfl⟩
      exact ⟨y5, y6, hloop.trans e⟩
    obtain ⟨y5, y6, A1⟩ := A1
    have hk1 : (M ++ [MO.lst ((lenS p).map .int)])[M.length]? = some (.lst ((lenS p).map .int)) := by rw [v_g0]; rfl
    have e2 : M ++ [MO.lst ((lenS p).map .int)] = μ ++ (.lst F :: (L ++ [.lst ((lenS p).map .int)])) := by rw [← hM, List.append_assoc]; rfl
    have hk2 : (M ++ [MO.lst ((lenS p).map .int)])[μ.length]? = some (.lst F) := by rw [e2, v_g0]; rfl
    have ho : ∀ f : Nat → List P → Out Fl, objR (.o μ.length) (M ++ [.lst ((lenS p).map .int)]) f = f μ.length F := fun f => v_obj hk2
    have hap : ∀ (x : P) (ρ : Env), appR (.o μ.length) x ρ (M ++ [.lst ((lenS p).map .int)]) = .ok (.nx ρ) (μ ++ (.lst (F ++ [x]) :: (L ++ [.lst ((lenS p).map .int)]))) := fun x ρ => by
      rw [v_app hk2 (by show _ < 1000000; omega), e2, v_s0]
      rfl
    have A2 : evS (C ns (d + 1)) s__law_board_of_2_2 (oE (pt t) μ.length (some (.p (.lst (namesC.map pt)))) (some (.p (pt p))) (some (.o M.length)) y5 y6) (M ++ [.lst ((lenS p).map .int)]) = .ok (.nx (oE (pt t) μ.length (some (.p (.lst (namesC.map pt)))) (some (.p (pt p))) (some (.o M.length)) y5 y6)) (μ ++ (.lst (F ++ [sd (lenS p)]) :: (L ++ [.lst ((lenS p).map .int)]))) := by
      generalize namesC.map pt = N at *
      simp only [s__law_board_of_2_2, ho, v_bi_o hk1, hap, List.length_map, ups_len, downs_len, Int.cast_ofNat_Int, List.take_length, Nat.add_assoc, big, v_ix0, v_ix1, v_ix2, v_ix3, v_il0, v_il1, v_in0, v_in1, v_in2, v_tg2, v_sum_ti, v_sum_li, v_len_ti, v_eq_nil, v_ne_nil, v_eq_sd, v_ne_sd, tx_inj, v_in_li, v_eq_li, v_ne_li, v_eq_bd, v_ne_bd, eq_self, and_self, or_self, Int.reduceAdd, Int.reduceSub, Int.reduceMul, Int.reduceNeg, Int.reduceLT, Int.reduceLE, Int.reduceEq, Int.reduceNe, Nat.reduceLeDiff, Nat.reduceLT, decide_true, decide_false, Bool.not_not, ite_true, ite_false, Bool.true_eq_false, Bool.false_eq_true, Bool.and_true, Bool.true_and, Bool.and_false, Bool.false_and, Bool.or_true, Bool.true_or, Bool.or_false, Bool.false_or, Bool.false_eq_true, if_false, if_true, reduceIte, List.getElem?_cons_zero, List.getElem?_cons_succ, List.set_cons_zero, List.set_cons_succ, List.map_cons, List.map_nil, List.length_cons, List.length_nil, List.cons_append, List.nil_append, List.replicate_succ, List.replicate_zero, Nat.reduceAdd, Nat.reduceSub, Bool.not_true, Bool.not_false, decide_true, decide_false, Option.map_some, List.take_succ_cons, List.take_zero, v_g0, v_gk, v_s0, v_sk, v_tk, cl_isx, cl_sub, List.append_assoc, List.length_append, evSs, evS, evE, evAs, evFs, evIs, evB, evO, evIf, cl_scr, Out.bind_ok, Out.bind_exc, Out.bind_bad, R.wipe, v_onP_p, v_onP_n, v_onP_o, v_onP_f, v_int, v_bl, v_str, v_data, v_seq, v_obj, v_ix, v_of, v_retT, v_retT_b, v_retT_s, v_retT_l, v_retB, v_retB_b, v_add, v_sub, v_mul, v_mod, v_fdiv, v_pow, v_addl, v_addt, v_adds, v_mull, v_mult, v_lt, v_le, v_gt, v_ge, v_eq, v_ne, v_eqs, v_nes, v_isN, v_isNN, v_ltt, v_binR, v_frz_p, v_frz_n, v_pop_p, v_pop_n, v_sto_p, v_sto_n, v_sto_t, v_sto_o, v_lst, v_tup, v_lenR, v_len_s, v_bi_p, v_bi_n, v_bi_o, v_len_l, v_len_t, v_sum_l, v_sum_t, v_all, v_any, v_min_t, v_max_t, v_min_l, v_max_l, v_list_l, v_list_t, v_tuple_l, v_tuple_t, v_idx_t, v_idx_l, v_idx_n, v_idx_o, v_idx_s, v_tg1, v_app, v_seti, v_thn_n, v_thn_r, v_okB, v_noexc, v_arg_p, v_arg_n, v_arg_o, v_arg_s]
    refine ⟨oE (pt t) μ.length (some (.p (.lst (namesC.map pt)))) (some (.p (pt p))) (some (.o M.length)) y5 y6, μ ++ (.lst (F ++ [sd (lenS p)]) :: (L ++ [.lst ((lenS p).map .int)])), ?_, L ++ [.lst ((lenS p).map .int)], rfl, _, _, _, _, rfl⟩
    simp only [v_tg1, List.set_cons_succ, List.set_cons_zero]
    exact (ss_next A0).trans ((ss_next A1).trans ((ss_next A2).trans rfl))) (oE (pt t) μ.length (some (.p (.lst (namesC.map pt)))) none none none none) (μ ++ [.lst []]) ⟨[], rfl, none, none, none, none, rfl⟩
  rw [List.nil_append, hflat] at e
  have S2 : evS (C ns (d + 1)) s__law_board_of_2 (oE (pt t) μ.length (some (.p (.lst (namesC.map pt)))) none none none none) (μ ++ [.lst []]) = .ok (.nx (oE (pt t) μ.length (some (.p (.lst (namesC.map pt)))) x3 x4 x5 x6)) (μ ++ (.lst (parts.map fun p => sd (lenS p)) :: L)) := by
    rw [← e]
    simp only [s__law_board_of_2, evS, evE, evFs, ls, v_retT, v_retB, Out.bind_ok, v_str, hm, v_frz_n, itemsP, v_of, List.getElem?_cons_zero, List.getElem?_cons_succ, Bool.false_eq_true, if_false]
  have hk : (μ ++ (MO.lst (parts.map fun p => sd (lenS p)) :: L))[μ.length]? = some (.lst (parts.map fun p => sd (lenS p))) := by rw [v_g0]; rfl
  have S3 : evS (C ns (d + 1)) s__law_board_of_3 (oE (pt t) μ.length (some (.p (.lst (namesC.map pt)))) x3 x4 x5 x6) (μ ++ (.lst (parts.map fun p => sd (lenS p)) :: L)) = .ok (.nx [some (.p (pt t)), some (.o μ.length), some (.p (.lst (namesC.map pt))), x3, x4, x5, x6, some (.p (.tup (parts.map fun p => sd (lenS p)))), none, none]) (μ ++ (.lst (parts.map fun p => sd (lenS p)) :: L)) := by
    generalize namesC.map pt = N at *
    generalize parts.map (fun p => sd (lenS p)) = Q at *
    simp only [s__law_board_of_3, v_bi_o hk, List.length_map, ups_len, downs_len, Int.cast_ofNat_Int, List.take_length, Nat.add_assoc, big, v_ix0, v_ix1, v_ix2, v_ix3, v_il0, v_il1, v_in0, v_in1, v_in2, v_tg2, v_sum_ti, v_sum_li, v_len_ti, v_eq_nil, v_ne_nil, v_eq_sd, v_ne_sd, tx_inj, v_in_li, v_eq_li, v_ne_li, v_eq_bd, v_ne_bd, eq_self, and_self, or_self, Int.reduceAdd, Int.reduceSub, Int.reduceMul, Int.reduceNeg, Int.reduceLT, Int.reduceLE, Int.reduceEq, Int.reduceNe, Nat.reduceLeDiff, Nat.reduceLT, decide_true, decide_false, Bool.not_not, ite_true, ite_false, Bool.true_eq_false, Bool.false_eq_true, Bool.and_true, Bool.true_and, Bool.and_false, Bool.false_and, Bool.or_true, Bool.true_or, Bool.or_false, Bool.false_or, Bool.false_eq_true, if_false, if_true, reduceIte, List.getElem?_cons_zero, List.getElem?_cons_succ, List.set_cons_zero, List.set_cons_succ, List.map_cons, List.map_nil, List.length_cons, List.length_nil, List.cons_append, List.nil_append, List.replicate_succ, List.replicate_zero, Nat.reduceAdd, Nat.reduceSub, Bool.not_true, Bool.not_false, decide_true, decide_false, Option.map_some, List.take_succ_cons, List.take_zero, v_g0, v_gk, v_s0, v_sk, v_tk, cl_isx, cl_sub, List.append_assoc, List.length_append, evSs, evS, evE, evAs, evFs, evIs, evB, evO, evIf, cl_scr, Out.bind_ok, Out.bind_exc, Out.bind_bad, R.wipe, v_onP_p, v_onP_n, v_onP_o, v_onP_f, v_int, v_bl, v_str, v_data, v_seq, v_obj, v_ix, v_of, v_retT, v_retT_b, v_retT_s, v_retT_l, v_retB, v_retB_b, v_add, v_sub, v_mul, v_mod, v_fdiv, v_pow, v_addl, v_addt, v_adds, v_mull, v_mult, v_lt, v_le, v_gt, v_ge, v_eq, v_ne, v_eqs, v_nes, v_isN, v_isNN, v_ltt, v_binR, v_frz_p, v_frz_n, v_pop_p, v_pop_n, v_sto_p, v_sto_n, v_sto_t, v_sto_o, v_lst, v_tup, v_lenR, v_len_s, v_bi_p, v_bi_n, v_bi_o, v_len_l, v_len_t, v_sum_l, v_sum_t, v_all, v_any, v_min_t, v_max_t, v_min_l, v_max_l, v_list_l, v_list_t, v_tuple_l, v_tuple_t, v_idx_t, v_idx_l, v_idx_n, v_idx_o, v_idx_s, v_tg1, v_app, v_seti, v_thn_n, v_thn_r, v_okB, v_noexc, v_arg_p, v_arg_n, v_arg_o, v_arg_s]
  have fin : ∀ r : P, evS (C ns (d + 1)) s__law_board_of_4 [some (.p (pt t)), some (.o μ.length), some (.p (.lst (namesC.map pt))), x3, x4, x5, x6, some (.p (.tup (parts.map fun p => sd (lenS p)))), none, none] (μ ++ (.lst (parts.map fun p => sd (lenS p)) :: L)) = .ok (.rt (.p r)) (μ ++ (.lst (parts.map fun p => sd (lenS p)) :: L)) → evFn (C ns (d + 1)) f__law_board_of [.p (pt t)] μ = .ok (.p r) μ := fun r S4 => by
    rw [fn_ret (f := f__law_board_of) (ρ := [some (.p (pt t)), none, none, none, none, none, none, none, none, none]) rfl rfl ((ss_next S0).trans ((ss_next S1).trans ((ss_next S2).trans ((ss_next S3).trans (ss_last S4))))), v_pop_p, v_tk]
  by_cases h2 : parts.length = 2
  case neg =>
    have k : decide ((parts.length : Int) = 2) = false := decide_eq_false (by omega)
    rw [lawP_no h2]
    refine fin _ ?_
    have hlq : (parts.map fun p => sd (lenS p)).length = parts.length := List.length_map _
    generalize parts.map (fun p => sd (lenS p)) = Q at *
    generalize namesC.map pt = N at *
    have k' : decide ((Q.length : Int) = 2) = false := by rw [hlq]; exact k
    simp only [s__law_board_of_4, k', orNone, List.length_map, ups_len, downs_len, Int.cast_ofNat_Int, List.take_length, Nat.add_assoc, big, v_ix0, v_ix1, v_ix2, v_ix3, v_il0, v_il1, v_in0, v_in1, v_in2, v_tg2, v_sum_ti, v_sum_li, v_len_ti, v_eq_nil, v_ne_nil, v_eq_sd, v_ne_sd, tx_inj, v_in_li, v_eq_li, v_ne_li, v_eq_bd, v_ne_bd, eq_self, and_self, or_self, Int.reduceAdd, Int.reduceSub, Int.reduceMul, Int.reduceNeg, Int.reduceLT, Int.reduceLE, Int.reduceEq, Int.reduceNe, Nat.reduceLeDiff, Nat.reduceLT, decide_true, decide_false, Bool.not_not, ite_true, ite_false, Bool.true_eq_false, Bool.false_eq_true, Bool.and_true, Bool.true_and, Bool.and_false, Bool.false_and, Bool.or_true, Bool.true_or, Bool.or_false, Bool.false_or, Bool.false_eq_true, if_false, if_true, reduceIte, List.getElem?_cons_zero, List.getElem?_cons_succ, List.set_cons_zero, List.set_cons_succ, List.map_cons, List.map_nil, List.length_cons, List.length_nil, List.cons_append, List.nil_append, List.replicate_succ, List.replicate_zero, Nat.reduceAdd, Nat.reduceSub, Bool.not_true, Bool.not_false, decide_true, decide_false, Option.map_some, List.take_succ_cons, List.take_zero, v_g0, v_gk, v_s0, v_sk, v_tk, cl_isx, cl_sub, List.append_assoc, List.length_append, evSs, evS, evE, evAs, evFs, evIs, evB, evO, evIf, cl_scr, Out.bind_ok, Out.bind_exc, Out.bind_bad, R.wipe, v_onP_p, v_onP_n, v_onP_o, v_onP_f, v_int, v_bl, v_str, v_data, v_seq, v_obj, v_ix, v_of, v_retT, v_retT_b, v_retT_s, v_retT_l, v_retB, v_retB_b, v_add, v_sub, v_mul, v_mod, v_fdiv, v_pow, v_addl, v_addt, v_adds, v_mull, v_mult, v_lt, v_le, v_gt, v_ge, v_eq, v_ne, v_eqs, v_nes, v_isN, v_isNN, v_ltt, v_binR, v_frz_p, v_frz_n, v_pop_p, v_pop_n, v_sto_p, v_sto_n, v_sto_t, v_sto_o, v_lst, v_tup, v_lenR, v_len_s, v_bi_p, v_bi_n, v_bi_o, v_len_l, v_len_t, v_sum_l, v_sum_t, v_all, v_any, v_min_t, v_max_t, v_min_l, v_max_l, v_list_l, v_list_t, v_tuple_l, v_tuple_t, v_idx_t, v_idx_l, v_idx_n, v_idx_o, v_idx_s, v_tg1, v_app, v_seti, v_thn_n, v_thn_r, v_okB, v_noexc, v_arg_p, v_arg_n, v_arg_o, v_arg_s]
  obtain ⟨x, y, rfl⟩ : ∃ x y, parts = [x, y] := by
    match parts, h2 with
    | [x, y], _ => exact ⟨x, y, rfl⟩
  rw [lawP_2]
  simp only [List.map_cons, List.map_nil] at fin
  generalize μ ++ (MO.lst [sd (lenS x), sd (lenS y)] :: L) = M at *
  have lx := lenS_len x
  have ly := lenS_len y
  have hib := fn_is_board ns d (lenS x) (lenS y) (by omega) (by omega) M
  cases hB : isBoard (lenS x) (lenS y) with
  | false =>
    rw [hB] at hib
    rw [if_neg fun h => Bool.noConfusion h.1]
    refine fin _ ?_
    generalize namesC.map pt = N at *
    simp only [s__law_board_of_4, hib, orNone, List.length_map, ups_len, downs_len, Int.cast_ofNat_Int, List.take_length, Nat.add_assoc, big, v_ix0, v_ix1, v_ix2, v_ix3, v_il0, v_il1, v_in0, v_in1, v_in2, v_tg2, v_sum_ti, v_sum_li, v_len_ti, v_eq_nil, v_ne_nil, v_eq_sd, v_ne_sd, tx_inj, v_in_li, v_eq_li, v_ne_li, v_eq_bd, v_ne_bd, eq_self, and_self, or_self, Int.reduceAdd, Int.reduceSub, Int.reduceMul, Int.reduceNeg, Int.reduceLT, Int.reduceLE, Int.reduceEq, Int.reduceNe, Nat.reduceLeDiff, Nat.reduceLT, decide_true, decide_false, Bool.not_not, ite_true, ite_false, Bool.true_eq_false, Bool.false_eq_true, Bool.and_true, Bool.true_and, Bool.and_false, Bool.false_and, Bool.or_true, Bool.true_or, Bool.or_false, Bool.false_or, Bool.false_eq_true, if_false, if_true, reduceIte, List.getElem?_cons_zero, List.getElem?_cons_succ, List.set_cons_zero, List.set_cons_succ, List.map_cons, List.map_nil, List.length_cons, List.length_nil, List.cons_append, List.nil_append, List.replicate_succ, List.replicate_zero, Nat.reduceAdd, Nat.reduceSub, Bool.not_true, Bool.not_false, decide_true, decide_false, Option.map_some, List.take_succ_cons, List.take_zero, v_g0, v_gk, v_s0, v_sk, v_tk, cl_isx, cl_sub, List.append_assoc, List.length_append, evSs, evS, evE, evAs, evFs, evIs, evB, evO, evIf, cl_scr, Out.bind_ok, Out.bind_exc, Out.bind_bad, R.wipe, v_onP_p, v_onP_n, v_onP_o, v_onP_f, v_int, v_bl, v_str, v_data, v_seq, v_obj, v_ix, v_of, v_retT, v_retT_b, v_retT_s, v_retT_l, v_retB, v_retB_b, v_add, v_sub, v_mul, v_mod, v_fdiv, v_pow, v_addl, v_addt, v_adds, v_mull, v_mult, v_lt, v_le, v_gt, v_ge, v_eq, v_ne, v_eqs, v_nes, v_isN, v_isNN, v_ltt, v_binR, v_frz_p, v_frz_n, v_pop_p, v_pop_n, v_sto_p, v_sto_n, v_sto_t, v_sto_o, v_lst, v_tup, v_lenR, v_len_s, v_bi_p, v_bi_n, v_bi_o, v_len_l, v_len_t, v_sum_l, v_sum_t, v_all, v_any, v_min_t, v_max_t, v_min_l, v_max_l, v_list_l, v_list_t, v_tuple_l, v_tuple_t, v_idx_t, v_idx_l, v_idx_n, v_idx_o, v_idx_s, v_tg1, v_app, v_seti, v_thn_n, v_thn_r, v_okB, v_noexc, v_arg_p, v_arg_n, v_arg_o, v_arg_s]
  | true =>
    rw [hB] at hib
    obtain ⟨sa, sb, _⟩ := isBoard_iff.mp hB
    have htx := fn_ltext ns d sa sb M
    by_cases hc : boardC (lenS x, lenS y) = t
    · have k : decide (boardC (lenS x, lenS y) = t) = true := decide_eq_true hc
      rw [if_pos ⟨rfl, hc⟩]
      refine fin _ ?_
      generalize namesC.map pt = N at *
      generalize boardC (lenS x, lenS y) = T at *
      simp only [s__law_board_of_4, hib, htx, k, orNone, encB, List.length_map, ups_len, downs_len, Int.cast_ofNat_Int, List.take_length, Nat.add_assoc, big, v_ix0, v_ix1, v_ix2, v_ix3, v_il0, v_il1, v_in0, v_in1, v_in2, v_tg2, v_sum_ti, v_sum_li, v_len_ti, v_eq_nil, v_ne_nil, v_eq_sd, v_ne_sd, tx_inj, v_in_li, v_eq_li, v_ne_li, v_eq_bd, v_ne_bd, eq_self, and_self, or_self, Int.reduceAdd, Int.reduceSub, Int.reduceMul, Int.reduceNeg, Int.reduceLT, Int.reduceLE, Int.reduceEq, Int.reduceNe, Nat.reduceLeDiff, Nat.reduceLT, decide_true, decide_false, Bool.not_not, ite_true, ite_false, Bool.true_eq_false, Bool.false_eq_true, Bool.and_true, Bool.true_and, Bool.and_false, Bool.false_and, Bool.or_true, Bool.true_or, Bool.or_false, Bool.false_or, Bool.false_eq_true, if_false, if_true, reduceIte, List.getElem?_cons_zero, List.getElem?_cons_succ, List.set_cons_zero, List.set_cons_succ, List.map_cons, List.map_nil, List.length_cons, List.length_nil, List.cons_append, List.nil_append, List.replicate_succ, List.replicate_zero, Nat.reduceAdd, Nat.reduceSub, Bool.not_true, Bool.not_false, decide_true, decide_false, Option.map_some, List.take_succ_cons, List.take_zero, v_g0, v_gk, v_s0, v_sk, v_tk, cl_isx, cl_sub, List.append_assoc, List.length_append, evSs, evS, evE, evAs, evFs, evIs, evB, evO, evIf, cl_scr, Out.bind_ok, Out.bind_exc, Out.bind_bad, R.wipe, v_onP_p, v_onP_n, v_onP_o, v_onP_f, v_int, v_bl, v_str, v_data, v_seq, v_obj, v_ix, v_of, v_retT, v_retT_b, v_retT_s, v_retT_l, v_retB, v_retB_b, v_add, v_sub, v_mul, v_mod, v_fdiv, v_pow, v_addl, v_addt, v_adds, v_mull, v_mult, v_lt, v_le, v_gt, v_ge, v_eq, v_ne, v_eqs, v_nes, v_isN, v_isNN, v_ltt, v_binR, v_frz_p, v_frz_n, v_pop_p, v_pop_n, v_sto_p, v_sto_n, v_sto_t, v_sto_o, v_lst, v_tup, v_lenR, v_len_s, v_bi_p, v_bi_n, v_bi_o, v_len_l, v_len_t, v_sum_l, v_sum_t, v_all, v_any, v_min_t, v_max_t, v_min_l, v_max_l, v_list_l, v_list_t, v_tuple_l, v_tuple_t, v_idx_t, v_idx_l, v_idx_n, v_idx_o, v_idx_s, v_tg1, v_app, v_seti, v_thn_n, v_thn_r, v_okB, v_noexc, v_arg_p, v_arg_n, v_arg_o, v_arg_s]
    · have k : decide (boardC (lenS x, lenS y) = t) = false := decide_eq_false hc
      rw [if_neg fun h => hc h.2]
      refine fin _ ?_
      generalize namesC.map pt = N at *
      generalize boardC (lenS x, lenS y) = T at *
      simp only [s__law_board_of_4, hib, htx, k, orNone, List.length_map, ups_len, downs_len, Int.cast_ofNat_Int, List.take_length, Nat.add_assoc, big, v_ix0, v_ix1, v_ix2, v_ix3, v_il0, v_il1, v_in0, v_in1, v_in2, v_tg2, v_sum_ti, v_sum_li, v_len_ti, v_eq_nil, v_ne_nil, v_eq_sd, v_ne_sd, tx_inj, v_in_li, v_eq_li, v_ne_li, v_eq_bd, v_ne_bd, eq_self, and_self, or_self, Int.reduceAdd, Int.reduceSub, Int.reduceMul, Int.reduceNeg, Int.reduceLT, Int.reduceLE, Int.reduceEq, Int.reduceNe, Nat.reduceLeDiff, Nat.reduceLT, decide_true, decide_false, Bool.not_not, ite_true, ite_false, Bool.true_eq_false, Bool.false_eq_true, Bool.and_true, Bool.true_and, Bool.and_false, Bool.false_and, Bool.or_true, Bool.true_or, Bool.or_false, Bool.false_or, Bool.false_eq_true, if_false, if_true, reduceIte, List.getElem?_cons_zero, List.getElem?_cons_succ, List.set_cons_zero, List.set_cons_succ, List.map_cons, List.map_nil, List.length_cons, List.length_nil, List.cons_append, List.nil_append, List.replicate_succ, List.replicate_zero, Nat.reduceAdd, Nat.reduceSub, Bool.not_true, Bool.not_false, decide_true, decide_false, Option.map_some, List.take_succ_cons, List.take_zero, v_g0, v_gk, v_s0, v_sk, v_tk, cl_isx, cl_sub, List.append_assoc, List.length_append, evSs, evS, evE, evAs, evFs, evIs, evB, evO, evIf, cl_scr, Out.bind_ok, Out.bind_exc, Out.bind_bad, R.wipe, v_onP_p, v_onP_n, v_onP_o, v_onP_f, v_int, v_bl, v_str, v_data, v_seq, v_obj, v_ix, v_of, v_retT, v_retT_b, v_retT_s, v_retT_l, v_retB, v_retB_b, v_add, v_sub, v_mul, v_mod, v_fdiv, v_pow, v_addl, v_addt, v_adds, v_mull, v_mult, v_lt, v_le, v_gt, v_ge, v_eq, v_ne, v_eqs, v_nes, v_isN, v_isNN, v_ltt, v_binR, v_frz_p, v_frz_n, v_pop_p, v_pop_n, v_sto_p, v_sto_n, v_sto_t, v_sto_o, v_lst, v_tup, v_lenR, v_len_s, v_bi_p, v_bi_n, v_bi_o, v_len_l, v_len_t, v_sum_l, v_sum_t, v_all, v_any, v_min_t, v_max_t, v_min_l, v_max_l, v_list_l, v_list_t, v_tuple_l, v_tuple_t, v_idx_t, v_idx_l, v_idx_n, v_idx_o, v_idx_s, v_tg1, v_app, v_seti, v_thn_n, v_thn_r, v_okB, v_noexc, v_arg_p, v_arg_n, v_arg_o, v_arg_s]

end R
namespace R
open PySem
/-! ### k02 -/
theorem sub_2 : ∀ n ∈ ([("BadBoard" : Str), "BadText"] : List Str), subN raised asked n "RaceError" = some true := by decide +kernel
def rdV (t : List Nat) : P := match readB t with
  | some b => encB b
  | none => refd "text"
theorem fn_told0 (ns : List Int) (d : Nat) (t : List Nat) (ht : t.length ≤ 900) (μ : Mu) : (C ns (d + 5)).fn 19 [.p (.int 0), .p (pt t)] μ = .ok (.p (rdV t)) μ := by
  rw [cl_fn (f := f__law_told) rfl]
  have s1 := sub_2 "BadText" (by simp)
  have r1 := fn_refusal ns (d + 3) "BadText" 1 "text" (by simp) (by decide +kernel) μ
  have e := fn_read_board ns d t ht μ
  unfold rdV
  cases hr : readB t with
  | some b =>
    rw [hr] at e
    simp only [orBd] at e
    simp only
    generalize encB b = B at *
    simp only [f__law_told, s__law_told_0, s__law_told_1, s__law_told_2_0, s__law_told_2, s__law_told_3, evFn, e, List.length_map, ups_len, downs_len, Int.cast_ofNat_Int, List.take_length, Nat.add_assoc, big, v_ix0, v_ix1, v_ix2, v_ix3, v_il0, v_il1, v_in0, v_in1, v_in2, v_tg2, v_sum_ti, v_sum_li, v_len_ti, v_eq_nil, v_ne_nil, v_eq_sd, v_ne_sd, tx_inj, v_in_li, v_eq_li, v_ne_li, v_eq_bd, v_ne_bd, eq_self, and_self, or_self, Int.reduceAdd, Int.reduceSub, Int.reduceMul, Int.reduceNeg, Int.reduceLT, Int.reduceLE, Int.reduceEq, Int.reduceNe, Nat.reduceLeDiff, Nat.reduceLT, decide_true, decide_false, Bool.not_not, ite_true, ite_false, Bool.true_eq_false, Bool.false_eq_true, Bool.and_true, Bool.true_and, Bool.and_false, Bool.false_and, Bool.or_true, Bool.true_or, Bool.or_false, Bool.false_or, Bool.false_eq_true, if_false, if_true, reduceIte, List.getElem?_cons_zero, List.getElem?_cons_succ, List.set_cons_zero, List.set_cons_succ, List.map_cons, List.map_nil, List.length_cons, List.length_nil, List.cons_append, List.nil_append, List.replicate_succ, List.replicate_zero, Nat.reduceAdd, Nat.reduceSub, Bool.not_true, Bool.not_false, decide_true, decide_false, Option.map_some, List.take_succ_cons, List.take_zero, v_g0, v_gk, v_s0, v_sk, v_tk, cl_isx, cl_sub, List.append_assoc, List.length_append, evSs, evS, evE, evAs, evFs, evIs, evB, evO, evIf, cl_scr, Out.bind_ok, Out.bind_exc, Out.bind_bad, R.wipe, v_onP_p, v_onP_n, v_onP_o, v_onP_f, v_int, v_bl, v_str, v_data, v_seq, v_obj, v_ix, v_of, v_retT, v_retT_b, v_retT_s, v_retT_l, v_retB, v_retB_b, v_add, v_sub, v_mul, v_mod, v_fdiv, v_pow, v_addl, v_addt, v_adds, v_mull, v_mult, v_lt, v_le, v_gt, v_ge, v_eq, v_ne, v_eqs, v_nes, v_isN, v_isNN, v_ltt, v_binR, v_frz_p, v_frz_n, v_pop_p, v_pop_n, v_sto_p, v_sto_n, v_sto_t, v_sto_o, v_lst, v_tup, v_lenR, v_len_s, v_bi_p, v_bi_n, v_bi_o, v_len_l, v_len_t, v_sum_l, v_sum_t, v_all, v_any, v_min_t, v_max_t, v_min_l, v_max_l, v_list_l, v_list_t, v_tuple_l, v_tuple_t, v_idx_t, v_idx_l, v_idx_n, v_idx_o, v_idx_s, v_tg1, v_app, v_seti, v_thn_n, v_thn_r, v_okB, v_noexc, v_arg_p, v_arg_n, v_arg_o, v_arg_s]
  | none =>
    rw [hr] at e
    simp only [orBd] at e
    simp only [f__law_told, s__law_told_0, s__law_told_1, s__law_told_2_0, s__law_told_2, s__law_told_3, evFn, e, s1, r1, List.length_map, ups_len, downs_len, Int.cast_ofNat_Int, List.take_length, Nat.add_assoc, big, v_ix0, v_ix1, v_ix2, v_ix3, v_il0, v_il1, v_in0, v_in1, v_in2, v_tg2, v_sum_ti, v_sum_li, v_len_ti, v_eq_nil, v_ne_nil, v_eq_sd, v_ne_sd, tx_inj, v_in_li, v_eq_li, v_ne_li, v_eq_bd, v_ne_bd, eq_self, and_self, or_self, Int.reduceAdd, Int.reduceSub, Int.reduceMul, Int.reduceNeg, Int.reduceLT, Int.reduceLE, Int.reduceEq, Int.reduceNe, Nat.reduceLeDiff, Nat.reduceLT, decide_true, decide_false, Bool.not_not, ite_true, ite_false, Bool.true_eq_false, Bool.false_eq_true, Bool.and_true, Bool.true_and, Bool.and_false, Bool.false_and, Bool.or_true, Bool.true_or, Bool.or_false, Bool.false_or, Bool.false_eq_true, if_false, if_true, reduceIte, List.getElem?_cons_zero, List.getElem?_cons_succ, List.set_cons_zero, List.set_cons_succ, List.map_cons, List.map_nil, List.length_cons, List.length_nil, List.cons_append, List.nil_append, List.replicate_succ, List.replicate_zero, Nat.reduceAdd, Nat.reduceSub, Bool.not_true, Bool.not_false, decide_true, decide_false, Option.map_some, List.take_succ_cons, List.take_zero, v_g0, v_gk, v_s0, v_sk, v_tk, cl_isx, cl_sub, List.append_assoc, List.length_append, evSs, evS, evE, evAs, evFs, evIs, evB, evO, evIf, cl_scr, Out.bind_ok, Out.bind_exc, Out.bind_bad, R.wipe, v_onP_p, v_onP_n, v_onP_o, v_onP_f, v_int, v_bl, v_str, v_data, v_seq, v_obj, v_ix, v_of, v_retT, v_retT_b, v_retT_s, v_retT_l, v_retB, v_retB_b, v_add, v_sub, v_mul, v_mod, v_fdiv, v_pow, v_addl, v_addt, v_adds, v_mull, v_mult, v_lt, v_le, v_gt, v_ge, v_eq, v_ne, v_eqs, v_nes, v_isN, v_isNN, v_ltt, v_binR, v_frz_p, v_frz_n, v_pop_p, v_pop_n, v_sto_p, v_sto_n, v_sto_t, v_sto_o, v_lst, v_tup, v_lenR, v_len_s, v_bi_p, v_bi_n, v_bi_o, v_len_l, v_len_t, v_sum_l, v_sum_t, v_all, v_any, v_min_t, v_max_t, v_min_l, v_max_l, v_list_l, v_list_t, v_tuple_l, v_tuple_t, v_idx_t, v_idx_l, v_idx_n, v_idx_o, v_idx_s, v_tg1, v_app, v_seti, v_thn_n, v_thn_r, v_okB, v_noexc, v_arg_p, v_arg_n, v_arg_o, v_arg_s]
theorem fn_told1 (ns : List Int) (d : Nat) {b : Bd} (h : isBoard b.1 b.2 = true) (μ : Mu) : (C ns (d + 4)).fn 19 [.p (.int 1), .p (encB b)] μ = .ok (.p (pt (boardC b))) μ := by
  rw [cl_fn (f := f__law_told) rfl]
  have e := fn_board_text ns d h μ
  generalize encB b = B at *
  generalize boardC b = T at *
  simp only [f__law_told, s__law_told_0, s__law_told_1, s__law_told_2_0, s__law_told_2, s__law_told_3, evFn, e, List.length_map, ups_len, downs_len, Int.cast_ofNat_Int, List.take_length, Nat.add_assoc, big, v_ix0, v_ix1, v_ix2, v_ix3, v_il0, v_il1, v_in0, v_in1, v_in2, v_tg2, v_sum_ti, v_sum_li, v_len_ti, v_eq_nil, v_ne_nil, v_eq_sd, v_ne_sd, tx_inj, v_in_li, v_eq_li, v_ne_li, v_eq_bd, v_ne_bd, eq_self, and_self, or_self, Int.reduceAdd, Int.reduceSub, Int.reduceMul, Int.reduceNeg, Int.reduceLT, Int.reduceLE, Int.reduceEq, Int.reduceNe, Nat.reduceLeDiff, Nat.reduceLT, decide_true, decide_false, Bool.not_not, ite_true, ite_false, Bool.true_eq_false, Bool.false_eq_true, Bool.and_true, Bool.true_and, Bool.and_false, Bool.false_and, Bool.or_true, Bool.true_or, Bool.or_false, Bool.false_or, Bool.false_eq_true, if_false, if_true, reduceIte, List.getElem?_cons_zero, List.getElem?_cons_succ, List.set_cons_zero, List.set_cons_succ, List.map_cons, List.map_nil, List.length_cons, List.length_nil, List.cons_append, List.nil_append, List.replicate_succ, List.replicate_zero, Nat.reduceAdd, Nat.reduceSub, Bool.not_true, Bool.not_false, decide_true, decide_false, Option.map_some, List.take_succ_cons, List.take_zero, v_g0, v_gk, v_s0, v_sk, v_tk, cl_isx, cl_sub, List.append_assoc, List.length_append, evSs, evS, evE, evAs, evFs, evIs, evB, evO, evIf, cl_scr, Out.bind_ok, Out.bind_exc, Out.bind_bad, R.wipe, v_onP_p, v_onP_n, v_onP_o, v_onP_f, v_int, v_bl, v_str, v_data, v_seq, v_obj, v_ix, v_of, v_retT, v_retT_b, v_retT_s, v_retT_l, v_retB, v_retB_b, v_add, v_sub, v_mul, v_mod, v_fdiv, v_pow, v_addl, v_addt, v_adds, v_mull, v_mult, v_lt, v_le, v_gt, v_ge, v_eq, v_ne, v_eqs, v_nes, v_isN, v_isNN, v_ltt, v_binR, v_frz_p, v_frz_n, v_pop_p, v_pop_n, v_sto_p, v_sto_n, v_sto_t, v_sto_o, v_lst, v_tup, v_lenR, v_len_s, v_bi_p, v_bi_n, v_bi_o, v_len_l, v_len_t, v_sum_l, v_sum_t, v_all, v_any, v_min_t, v_max_t, v_min_l, v_max_l, v_list_l, v_list_t, v_tuple_l, v_tuple_t, v_idx_t, v_idx_l, v_idx_n, v_idx_o, v_idx_s, v_tg1, v_app, v_seti, v_thn_n, v_thn_r, v_okB, v_noexc, v_arg_p, v_arg_n, v_arg_o, v_arg_s]
theorem fn_told1_bad (ns : List Int) (d : Nat) {b : Bd} (ha : b.1.length ≤ 1000) (hb : b.2.length ≤ 1000) (h : isBoard b.1 b.2 = false) (μ : Mu) : (C ns (d + 4)).fn 19 [.p (.int 1), .p (encB b)] μ = .ok (.p (refd "board")) μ := by
  rw [cl_fn (f := f__law_told) rfl]
  have s1 := sub_2 "BadBoard" (by simp)
  have r1 := fn_refusal ns (d + 2) "BadBoard" 0 "board" (by simp) (by decide +kernel) μ
  have e := fn_board_text_bad ns d ha hb h μ
  generalize encB b = B at *
  simp only [f__law_told, s__law_told_0, s__law_told_1, s__law_told_2_0, s__law_told_2, s__law_told_3, evFn, e, s1, r1, List.length_map, ups_len, downs_len, Int.cast_ofNat_Int, List.take_length, Nat.add_assoc, big, v_ix0, v_ix1, v_ix2, v_ix3, v_il0, v_il1, v_in0, v_in1, v_in2, v_tg2, v_sum_ti, v_sum_li, v_len_ti, v_eq_nil, v_ne_nil, v_eq_sd, v_ne_sd, tx_inj, v_in_li, v_eq_li, v_ne_li, v_eq_bd, v_ne_bd, eq_self, and_self, or_self, Int.reduceAdd, Int.reduceSub, Int.reduceMul, Int.reduceNeg, Int.reduceLT, Int.reduceLE, Int.reduceEq, Int.reduceNe, Nat.reduceLeDiff, Nat.reduceLT, decide_true, decide_false, Bool.not_not, ite_true, ite_false, Bool.true_eq_false, Bool.false_eq_true, Bool.and_true, Bool.true_and, Bool.and_false, Bool.false_and, Bool.or_true, Bool.true_or, Bool.or_false, Bool.false_or, Bool.false_eq_true, if_false, if_true, reduceIte, List.getElem?_cons_zero, List.getElem?_cons_succ, List.set_cons_zero, List.set_cons_succ, List.map_cons, List.map_nil, List.length_cons, List.length_nil, List.cons_append, List.nil_append, List.replicate_succ, List.replicate_zero, Nat.reduceAdd, Nat.reduceSub, Bool.not_true, Bool.not_false, decide_true, decide_false, Option.map_some, List.take_succ_cons, List.take_zero, v_g0, v_gk, v_s0, v_sk, v_tk, cl_isx, cl_sub, List.append_assoc, List.length_append, evSs, evS, evE, evAs, evFs, evIs, evB, evO, evIf, cl_scr, Out.bind_ok, Out.bind_exc, Out.bind_bad, R.wipe, v_onP_p, v_onP_n, v_onP_o, v_onP_f, v_int, v_bl, v_str, v_data, v_seq, v_obj, v_ix, v_of, v_retT, v_retT_b, v_retT_s, v_retT_l, v_retB, v_retB_b, v_add, v_sub, v_mul, v_mod, v_fdiv, v_pow, v_addl, v_addt, v_adds, v_mull, v_mult, v_lt, v_le, v_gt, v_ge, v_eq, v_ne, v_eqs, v_nes, v_isN, v_isNN, v_ltt, v_binR, v_frz_p, v_frz_n, v_pop_p, v_pop_n, v_sto_p, v_sto_n, v_sto_t, v_sto_o, v_lst, v_tup, v_lenR, v_len_s, v_bi_p, v_bi_n, v_bi_o, v_len_l, v_len_t, v_sum_l, v_sum_t, v_all, v_any, v_min_t, v_max_t, v_min_l, v_max_l, v_list_l, v_list_t, v_tuple_l, v_tuple_t, v_idx_t, v_idx_l, v_idx_n, v_idx_o, v_idx_s, v_tg1, v_app, v_seti, v_thn_n, v_thn_r, v_okB, v_noexc, v_arg_p, v_arg_n, v_arg_o, v_arg_s]
/-! ### the signs -/
theorem plain_mem {l : List Nat} : plainT l = true ↔ ∀ c ∈ l, c < 256 := by
  unfold plainT
  rw [List.all_eq_true]
  simp only [decide_eq_true_eq]
theorem plain_not {l : List Nat} (h : ∀ c, 256 ≤ c → c ∉ l) : plainT l = true := plain_mem.mpr fun c hc => by
  by_cases k : c < 256
  · exact k
  · exact absurd hc (h c (by omega))
theorem plain_free {l : List Nat} (h : plainT l = true) {c : Nat} (hc : 256 ≤ c) : c ∉ l := fun k => by
  have := plain_mem.mp h c k
  omega
theorem wordC_free {a : List Int} {p : Int} {c : Nat} (h : 256 ≤ c) : c ∉ wordC a p := by
  unfold wordC
  simp only [List.mem_append, List.mem_singleton, not_or]
  refine ⟨⟨plC_free (by omega), by omega⟩, TL.numL_free (by omega)⟩
theorem plain_side (a : List Int) : plainT (sideC a) = true := plain_not fun c hc => joinL_free (by simp; omega) _ fun w hw => by
  obtain ⟨p, _, rfl⟩ := List.mem_map.mp hw
  exact wordC_free hc
theorem plain_app {a b : List Nat} (ha : plainT a = true) (hb : plainT b = true) : plainT (a ++ b) = true := plain_mem.mpr fun c hc => (List.mem_append.mp hc).elim (plain_mem.mp ha c) (plain_mem.mp hb c)
theorem plain_boardC (b : Bd) : plainT (boardC b) = true := plain_app (plain_app (plain_side _) (by decide)) (plain_side _)
def signs : List (List Nat) := [[32], [58], [124], [48], [49], [50], [54], [98], [111], [32, 124, 32]]
theorem signs_ok : ∀ s ∈ signs, s.length ≤ 3 ∧ plainT s = true := by decide +kernel
theorem signs_is : [P.str " ", .str ":", .str "|", .str "0", .str "1", .str "2", .str "6", .str "b", .str "o", .str " | "] = signs.map pt := by
  have l1 : Str.ofString "1" = tx [49] := by decide +kernel
  have l2 : Str.ofString "2" = tx [50] := by decide +kernel
  have l6 : Str.ofString "6" = tx [54] := by decide +kernel
  have lb : Str.ofString "b" = tx [98] := by decide +kernel
  have lo : Str.ofString "o" = tx [111] := by decide +kernel
  simp only [l_sp, l_col, l_pipe, l_0, l_sep, l1, l2, l6, lb, lo]
  rfl
abbrev lE (b : P) (t x4 x5 x6 x7 x8 x9 : Option Rv) : Env := [some .scr, some (.o 0), some (.p b), t, x4, x5, x6, x7, x8, x9]
theorem mut_step (ns : List Int) (d t : Nat) (ht : t < 800) (b : P) (T : List Nat) (hT : T.length ≤ 800) (hp : plainT T = true) (k : Int) (x5 x6 x7 : Option Rv) :
    ∃ T' y5 y6 y7, T'.length ≤ T.length + 3 ∧ plainT T' = true ∧ evSs (C ns (d + 4)) [s_law_4_0, s_law_4_1, s_law_4_2, s_law_4_3] (lE b (some (.p (pt T))) (some (.p (.int k))) x5 x6 x7 none none) [town t] = .ok (.nx (lE b (some (.p (pt T'))) (some (.p (.int k))) y5 y6 y7 none none)) [town (t + 3)] := by
  obtain ⟨a1, a2⟩ := drawV_b ns t (n := (T.length : Int) + 1) (by omega)
  have e1 := fn_draw ns (d + 1) t ((T.length : Int) + 1) [] (by omega) (by omega)
  generalize drawV ns t ((T.length : Int) + 1) = at_ at *
  obtain ⟨v, hv, e2⟩ := fn_pick ns d (t + 1) (signs.map pt) [] (by decide) (by omega)
  obtain ⟨s, hs, rfl⟩ := List.mem_map.mp (List.mem_of_getElem? hv)
  obtain ⟨s1, s2⟩ := signs_ok s hs
  obtain ⟨w1, w2⟩ := drawV_b ns (t + 2) (n := 3) (by decide)
  have e3 := fn_draw ns (d + 1) (t + 2) 3 [] (by decide) (by omega)
  generalize drawV ns (t + 2) 3 = w at *
  clear hv hs
  have hl : biP .len [pt T] = some (.p (.int T.length)) := v_lentx (by show _ ≤ 1000000; omega)
  have S0 : evS (C ns (d + 4)) s_law_4_0 (lE b (some (.p (pt T))) (some (.p (.int k))) x5 x6 x7 none none) [town t] = .ok (.nx (lE b (some (.p (pt T))) (some (.p (.int k))) (some (.p (.int at_))) x6 x7 none none)) [town (t + 1)] := by
    simp only [s_law_4_0, hl, e1, List.length_map, ups_len, downs_len, Int.cast_ofNat_Int, List.take_length, Nat.add_assoc, big, v_ix0, v_ix1, v_ix2, v_ix3, v_il0, v_il1, v_in0, v_in1, v_in2, v_tg2, v_sum_ti, v_sum_li, v_len_ti, v_eq_nil, v_ne_nil, v_eq_sd, v_ne_sd, tx_inj, v_in_li, v_eq_li, v_ne_li, v_eq_bd, v_ne_bd, eq_self, and_self, or_self, Int.reduceAdd, Int.reduceSub, Int.reduceMul, Int.reduceNeg, Int.reduceLT, Int.reduceLE, Int.reduceEq, Int.reduceNe, Nat.reduceLeDiff, Nat.reduceLT, decide_true, decide_false, Bool.not_not, ite_true, ite_false, Bool.true_eq_false, Bool.false_eq_true, Bool.and_true, Bool.true_and, Bool.and_false, Bool.false_and, Bool.or_true, Bool.true_or, Bool.or_false, Bool.false_or, Bool.false_eq_true, if_false, if_true, reduceIte, List.getElem?_cons_zero, List.getElem?_cons_succ, List.set_cons_zero, List.set_cons_succ, List.map_cons, List.map_nil, List.length_cons, List.length_nil, List.cons_append, List.nil_append, List.replicate_succ, List.replicate_zero, Nat.reduceAdd, Nat.reduceSub, Bool.not_true, Bool.not_false, decide_true, decide_false, Option.map_some, List.take_succ_cons, List.take_zero, v_g0, v_gk, v_s0, v_sk, v_tk, cl_isx, cl_sub, List.append_assoc, List.length_append, evSs, evS, evE, evAs, evFs, evIs, evB, evO, evIf, cl_scr, Out.bind_ok, Out.bind_exc, Out.bind_bad, R.wipe, v_onP_p, v_onP_n, v_onP_o, v_onP_f, v_int, v_bl, v_str, v_data, v_seq, v_obj, v_ix, v_of, v_retT, v_retT_b, v_retT_s, v_retT_l, v_retB, v_retB_b, v_add, v_sub, v_mul, v_mod, v_fdiv, v_pow, v_addl, v_addt, v_adds, v_mull, v_mult, v_lt, v_le, v_gt, v_ge, v_eq, v_ne, v_eqs, v_nes, v_isN, v_isNN, v_ltt, v_binR, v_frz_p, v_frz_n, v_pop_p, v_pop_n, v_sto_p, v_sto_n, v_sto_t, v_sto_o, v_lst, v_tup, v_lenR, v_len_s, v_bi_p, v_bi_n, v_bi_o, v_len_l, v_len_t, v_sum_l, v_sum_t, v_all, v_any, v_min_t, v_max_t, v_min_l, v_max_l, v_list_l, v_list_t, v_tuple_l, v_tuple_t, v_idx_t, v_idx_l, v_idx_n, v_idx_o, v_idx_s, v_tg1, v_app, v_seti, v_thn_n, v_thn_r, v_okB, v_noexc, v_arg_p, v_arg_n, v_arg_o, v_arg_s]
  have S1 : evS (C ns (d + 4)) s_law_4_1 (lE b (some (.p (pt T))) (some (.p (.int k))) (some (.p (.int at_))) x6 x7 none none) [town (t + 1)] = .ok (.nx (lE b (some (.p (pt T))) (some (.p (.int k))) (some (.p (.int at_))) (some (.p (pt s))) x7 none none)) [town (t + 2)] := by
    rw [← signs_is] at e2
    simp only [s_law_4_1, e2, List.length_map, ups_len, downs_len, Int.cast_ofNat_Int, List.take_length, Nat.add_assoc, big, v_ix0, v_ix1, v_ix2, v_ix3, v_il0, v_il1, v_in0, v_in1, v_in2, v_tg2, v_sum_ti, v_sum_li, v_len_ti, v_eq_nil, v_ne_nil, v_eq_sd, v_ne_sd, tx_inj, v_in_li, v_eq_li, v_ne_li, v_eq_bd, v_ne_bd, eq_self, and_self, or_self, Int.reduceAdd, Int.reduceSub, Int.reduceMul, Int.reduceNeg, Int.reduceLT, Int.reduceLE, Int.reduceEq, Int.reduceNe, Nat.reduceLeDiff, Nat.reduceLT, decide_true, decide_false, Bool.not_not, ite_true, ite_false, Bool.true_eq_false, Bool.false_eq_true, Bool.and_true, Bool.true_and, Bool.and_false, Bool.false_and, Bool.or_true, Bool.true_or, Bool.or_false, Bool.false_or, Bool.false_eq_true, if_false, if_true, reduceIte, List.getElem?_cons_zero, List.getElem?_cons_succ, List.set_cons_zero, List.set_cons_succ, List.map_cons, List.map_nil, List.length_cons, List.length_nil, List.cons_append, List.nil_append, List.replicate_succ, List.replicate_zero, Nat.reduceAdd, Nat.reduceSub, Bool.not_true, Bool.not_false, decide_true, decide_false, Option.map_some, List.take_succ_cons, List.take_zero, v_g0, v_gk, v_s0, v_sk, v_tk, cl_isx, cl_sub, List.append_assoc, List.length_append, evSs, evS, evE, evAs, evFs, evIs, evB, evO, evIf, cl_scr, Out.bind_ok, Out.bind_exc, Out.bind_bad, R.wipe, v_onP_p, v_onP_n, v_onP_o, v_onP_f, v_int, v_bl, v_str, v_data, v_seq, v_obj, v_ix, v_of, v_retT, v_retT_b, v_retT_s, v_retT_l, v_retB, v_retB_b, v_add, v_sub, v_mul, v_mod, v_fdiv, v_pow, v_addl, v_addt, v_adds, v_mull, v_mult, v_lt, v_le, v_gt, v_ge, v_eq, v_ne, v_eqs, v_nes, v_isN, v_isNN, v_ltt, v_binR, v_frz_p, v_frz_n, v_pop_p, v_pop_n, v_sto_p, v_sto_n, v_sto_t, v_sto_o, v_lst, v_tup, v_lenR, v_len_s, v_bi_p, v_bi_n, v_bi_o, v_len_l, v_len_t, v_sum_l, v_sum_t, v_all, v_any, v_min_t, v_max_t, v_min_l, v_max_l, v_list_l, v_list_t, v_tuple_l, v_tuple_t, v_idx_t, v_idx_l, v_idx_n, v_idx_o, v_idx_s, v_tg1, v_app, v_seti, v_thn_n, v_thn_r, v_okB, v_noexc, v_arg_p, v_arg_n, v_arg_o, v_arg_s]
  have S2 : evS (C ns (d + 4)) s_law_4_2 (lE b (some (.p (pt T))) (some (.p (.int k))) (some (.p (.int at_))) (some (.p (pt s))) x7 none none) [town (t + 2)] = .ok (.nx (lE b (some (.p (pt T))) (some (.p (.int k))) (some (.p (.int at_))) (some (.p (pt s))) (some (.p (.int w))) none none)) [town (t + 3)] := by
    simp only [s_law_4_2, e3, List.length_map, ups_len, downs_len, Int.cast_ofNat_Int, List.take_length, Nat.add_assoc, big, v_ix0, v_ix1, v_ix2, v_ix3, v_il0, v_il1, v_in0, v_in1, v_in2, v_tg2, v_sum_ti, v_sum_li, v_len_ti, v_eq_nil, v_ne_nil, v_eq_sd, v_ne_sd, tx_inj, v_in_li, v_eq_li, v_ne_li, v_eq_bd, v_ne_bd, eq_self, and_self, or_self, Int.reduceAdd, Int.reduceSub, Int.reduceMul, Int.reduceNeg, Int.reduceLT, Int.reduceLE, Int.reduceEq, Int.reduceNe, Nat.reduceLeDiff, Nat.reduceLT, decide_true, decide_false, Bool.not_not, ite_true, ite_false, Bool.true_eq_false, Bool.false_eq_true, Bool.and_true, Bool.true_and, Bool.and_false, Bool.false_and, Bool.or_true, Bool.true_or, Bool.or_false, Bool.false_or, Bool.false_eq_true, if_false, if_true, reduceIte, List.getElem?_cons_zero, List.getElem?_cons_succ, List.set_cons_zero, List.set_cons_succ, List.map_cons, List.map_nil, List.length_cons, List.length_nil, List.cons_append, List.nil_append, List.replicate_succ, List.replicate_zero, Nat.reduceAdd, Nat.reduceSub, Bool.not_true, Bool.not_false, decide_true, decide_false, Option.map_some, List.take_succ_cons, List.take_zero, v_g0, v_gk, v_s0, v_sk, v_tk, cl_isx, cl_sub, List.append_assoc, List.length_append, evSs, evS, evE, evAs, evFs, evIs, evB, evO, evIf, cl_scr, Out.bind_ok, Out.bind_exc, Out.bind_bad, R.wipe, v_onP_p, v_onP_n, v_onP_o, v_onP_f, v_int, v_bl, v_str, v_data, v_seq, v_obj, v_ix, v_of, v_retT, v_retT_b, v_retT_s, v_retT_l, v_retB, v_retB_b, v_add, v_sub, v_mul, v_mod, v_fdiv, v_pow, v_addl, v_addt, v_adds, v_mull, v_mult, v_lt, v_le, v_gt, v_ge, v_eq, v_ne, v_eqs, v_nes, v_isN, v_isNN, v_ltt, v_binR, v_frz_p, v_frz_n, v_pop_p, v_pop_n, v_sto_p, v_sto_n, v_sto_t, v_sto_o, v_lst, v_tup, v_lenR, v_len_s, v_bi_p, v_bi_n, v_bi_o, v_len_l, v_len_t, v_sum_l, v_sum_t, v_all, v_any, v_min_t, v_max_t, v_min_l, v_max_l, v_list_l, v_list_t, v_tuple_l, v_tuple_t, v_idx_t, v_idx_l, v_idx_n, v_idx_o, v_idx_s, v_tg1, v_app, v_seti, v_thn_n, v_thn_r, v_okB, v_noexc, v_arg_p, v_arg_n, v_arg_o, v_arg_s]
  have ct := cutS_to (l := T) (k := at_) a1 (by show _ ≤ 1000000; omega)
  have cf0 := cutS_from (l := T) (k := at_ + 0) (by omega) (by show _ ≤ 1000000; omega)
  have cf1 := cutS_from (l := T) (k := at_ + 1) (by omega) (by show _ ≤ 1000000; omega)
  have pt1 : plainT (T.take at_.toNat) = true := plain_mem.mpr fun c hc => plain_mem.mp hp c (List.mem_of_mem_take hc)
  have pt2 : ∀ n, plainT (T.drop n) = true := fun n => plain_mem.mpr fun c hc => plain_mem.mp hp c (List.mem_of_mem_drop hc)
  have l1 : (T.take at_.toNat).length ≤ at_.toNat := by rw [List.length_take]; omega
  have i1 : biP .int [.bl true] = some (.p (.int 1)) := rfl
  have i0 : biP .int [.bl false] = some (.p (.int 0)) := rfl
  have fin : ∀ T', evS (C ns (d + 4)) s_law_4_3 (lE b (some (.p (pt T))) (some (.p (.int k))) (some (.p (.int at_))) (some (.p (pt s))) (some (.p (.int w))) none none) [town (t + 3)] = .ok (.nx (lE b (some (.p (pt T'))) (some (.p (.int k))) (some (.p (.int at_))) (some (.p (pt s))) (some (.p (.int w))) none none)) [town (t + 3)] → T'.length ≤ T.length + 3 → plainT T' = true → ∃ T' y5 y6 y7, T'.length ≤ T.length + 3 ∧ plainT T' = true ∧ evSs (C ns (d + 4)) [s_law_4_0, s_law_4_1, s_law_4_2, s_law_4_3] (lE b (some (.p (pt T))) (some (.p (.int k))) x5 x6 x7 none none) [town t] = .ok (.nx (lE b (some (.p (pt T'))) (some (.p (.int k))) y5 y6 y7 none none)) [town (t + 3)] := fun T' S3 q1 q2 =>
    ⟨T', _, _, _, q1, q2, (ss_next S0).trans ((ss_next S1).trans ((ss_next S2).trans ((ss_next S3).trans rfl)))⟩
  clear S0 S1 S2
  have ad : ∀ (x y : List Nat), x.length ≤ 2000 → y.length ≤ 2000 → binP .Add (pt x) (pt y) = some (.p (pt (x ++ y))) := fun x y hx hy => v_addtx (by show _ ≤ 1000000; omega)
  have d0 : (T.drop (at_ + 0).toNat).length = T.length - at_.toNat := by rw [List.length_drop, Int.add_zero]
  have d1 : (T.drop (at_ + 1).toNat).length ≤ T.length - at_.toNat := by rw [List.length_drop]; omega
  have p0 := pt2 (at_ + 0).toNat
  have p1 := pt2 (at_ + 1).toNat
  have pe : plainT [] = true := rfl
  have le : Str.ofString "" = tx [] := l_e
  generalize T.take at_.toNat = A at *
  generalize T.drop (at_ + 0).toNat = B0 at *
  generalize T.drop (at_ + 1).toNat = B1 at *
  have b1 := ad A s (by omega) (by omega)
  have b2 := ad A [] (by omega) (by simp)
  have b3 := ad (A ++ s) B0 (by rw [List.length_append]; omega) (by omega)
  have b4 := ad (A ++ s) B1 (by rw [List.length_append]; omega) (by omega)
  have b5 := ad (A ++ []) B1 (by rw [List.length_append]; simp; omega) (by omega)
  rcases (show w = 0 ∨ w = 1 ∨ w = 2 by omega) with rfl | rfl | rfl
  · refine fin ((A ++ s) ++ B0) ?_ (by simp only [List.length_append]; omega) (plain_app (plain_app pt1 s2) p0)
    generalize hX : A ++ s = X at *
    generalize hY : X ++ B0 = Y at *
    simp only [s_law_4_3, ct, b1, b3, i0, cf0, List.length_map, ups_len, downs_len, Int.cast_ofNat_Int, List.take_length, Nat.add_assoc, big, v_ix0, v_ix1, v_ix2, v_ix3, v_il0, v_il1, v_in0, v_in1, v_in2, v_tg2, v_sum_ti, v_sum_li, v_len_ti, v_eq_nil, v_ne_nil, v_eq_sd, v_ne_sd, tx_inj, v_in_li, v_eq_li, v_ne_li, v_eq_bd, v_ne_bd, eq_self, and_self, or_self, Int.reduceAdd, Int.reduceSub, Int.reduceMul, Int.reduceNeg, Int.reduceLT, Int.reduceLE, Int.reduceEq, Int.reduceNe, Nat.reduceLeDiff, Nat.reduceLT, decide_true, decide_false, Bool.not_not, ite_true, ite_false, Bool.true_eq_false, Bool.false_eq_true, Bool.and_true, Bool.true_and, Bool.and_false, Bool.false_and, Bool.or_true, Bool.true_or, Bool.or_false, Bool.false_or, Bool.false_eq_true, if_false, if_true, reduceIte, List.getElem?_cons_zero, List.getElem?_cons_succ, List.set_cons_zero, List.set_cons_succ, List.map_cons, List.map_nil, List.length_cons, List.length_nil, List.cons_append, List.nil_append, List.replicate_succ, List.replicate_zero, Nat.reduceAdd, Nat.reduceSub, Bool.not_true, Bool.not_false, decide_true, decide_false, Option.map_some, List.take_succ_cons, List.take_zero, v_g0, v_gk, v_s0, v_sk, v_tk, cl_isx, cl_sub, List.append_assoc, List.length_append, evSs, evS, evE, evAs, evFs, evIs, evB, evO, evIf, cl_scr, Out.bind_ok, Out.bind_exc, Out.bind_bad, R.wipe, v_onP_p, v_onP_n, v_onP_o, v_onP_f, v_int, v_bl, v_str, v_data, v_seq, v_obj, v_ix, v_of, v_retT, v_retT_b, v_retT_s, v_retT_l, v_retB, v_retB_b, v_add, v_sub, v_mul, v_mod, v_fdiv, v_pow, v_addl, v_addt, v_adds, v_mull, v_mult, v_lt, v_le, v_gt, v_ge, v_eq, v_ne, v_eqs, v_nes, v_isN, v_isNN, v_ltt, v_binR, v_frz_p, v_frz_n, v_pop_p, v_pop_n, v_sto_p, v_sto_n, v_sto_t, v_sto_o, v_lst, v_tup, v_lenR, v_len_s, v_bi_p, v_bi_n, v_bi_o, v_len_l, v_len_t, v_sum_l, v_sum_t, v_all, v_any, v_min_t, v_max_t, v_min_l, v_max_l, v_list_l, v_list_t, v_tuple_l, v_tuple_t, v_idx_t, v_idx_l, v_idx_n, v_idx_o, v_idx_s, v_tg1, v_app, v_seti, v_thn_n, v_thn_r, v_okB, v_noexc, v_arg_p, v_arg_n, v_arg_o, v_arg_s]
  · refine fin ((A ++ s) ++ B1) ?_ (by simp only [List.length_append]; omega) (plain_app (plain_app pt1 s2) p1)
    generalize hX : A ++ s = X at *
    generalize hY : X ++ B1 = Y at *
    simp only [s_law_4_3, ct, b1, b4, i1, cf1, List.length_map, ups_len, downs_len, Int.cast_ofNat_Int, List.take_length, Nat.add_assoc, big, v_ix0, v_ix1, v_ix2, v_ix3, v_il0, v_il1, v_in0, v_in1, v_in2, v_tg2, v_sum_ti, v_sum_li, v_len_ti, v_eq_nil, v_ne_nil, v_eq_sd, v_ne_sd, tx_inj, v_in_li, v_eq_li, v_ne_li, v_eq_bd, v_ne_bd, eq_self, and_self, or_self, Int.reduceAdd, Int.reduceSub, Int.reduceMul, Int.reduceNeg, Int.reduceLT, Int.reduceLE, Int.reduceEq, Int.reduceNe, Nat.reduceLeDiff, Nat.reduceLT, decide_true, decide_false, Bool.not_not, ite_true, ite_false, Bool.true_eq_false, Bool.false_eq_true, Bool.and_true, Bool.true_and, Bool.and_false, Bool.false_and, Bool.or_true, Bool.true_or, Bool.or_false, Bool.false_or, Bool.false_eq_true, if_false, if_true, reduceIte, List.getElem?_cons_zero, List.getElem?_cons_succ, List.set_cons_zero, List.set_cons_succ, List.map_cons, List.map_nil, List.length_cons, List.length_nil, List.cons_append, List.nil_append, List.replicate_succ, List.replicate_zero, Nat.reduceAdd, Nat.reduceSub, Bool.not_true, Bool.not_false, decide_true, decide_false, Option.map_some, List.take_succ_cons, List.take_zero, v_g0, v_gk, v_s0, v_sk, v_tk, cl_isx, cl_sub, List.append_assoc, List.length_append, evSs, evS, evE, evAs, evFs, evIs, evB, evO, evIf, cl_scr, Out.bind_ok, Out.bind_exc, Out.bind_bad, R.wipe, v_onP_p, v_onP_n, v_onP_o, v_onP_f, v_int, v_bl, v_str, v_data, v_seq, v_obj, v_ix, v_of, v_retT, v_retT_b, v_retT_s, v_retT_l, v_retB, v_retB_b, v_add, v_sub, v_mul, v_mod, v_fdiv, v_pow, v_addl, v_addt, v_adds, v_mull, v_mult, v_lt, v_le, v_gt, v_ge, v_eq, v_ne, v_eqs, v_nes, v_isN, v_isNN, v_ltt, v_binR, v_frz_p, v_frz_n, v_pop_p, v_pop_n, v_sto_p, v_sto_n, v_sto_t, v_sto_o, v_lst, v_tup, v_lenR, v_len_s, v_bi_p, v_bi_n, v_bi_o, v_len_l, v_len_t, v_sum_l, v_sum_t, v_all, v_any, v_min_t, v_max_t, v_min_l, v_max_l, v_list_l, v_list_t, v_tuple_l, v_tuple_t, v_idx_t, v_idx_l, v_idx_n, v_idx_o, v_idx_s, v_tg1, v_app, v_seti, v_thn_n, v_thn_r, v_okB, v_noexc, v_arg_p, v_arg_n, v_arg_o, v_arg_s]
  · refine fin ((A ++ []) ++ B1) ?_ (by simp only [List.length_append, List.length_nil]; omega) (plain_app (plain_app pt1 pe) p1)
    generalize hX : A ++ [] = X at *
    generalize hY : X ++ B1 = Y at *
    simp only [s_law_4_3, ct, le, b2, b5, i1, cf1, List.length_map, ups_len, downs_len, Int.cast_ofNat_Int, List.take_length, Nat.add_assoc, big, v_ix0, v_ix1, v_ix2, v_ix3, v_il0, v_il1, v_in0, v_in1, v_in2, v_tg2, v_sum_ti, v_sum_li, v_len_ti, v_eq_nil, v_ne_nil, v_eq_sd, v_ne_sd, tx_inj, v_in_li, v_eq_li, v_ne_li, v_eq_bd, v_ne_bd, eq_self, and_self, or_self, Int.reduceAdd, Int.reduceSub, Int.reduceMul, Int.reduceNeg, Int.reduceLT, Int.reduceLE, Int.reduceEq, Int.reduceNe, Nat.reduceLeDiff, Nat.reduceLT, decide_true, decide_false, Bool.not_not, ite_true, ite_false, Bool.true_eq_false, Bool.false_eq_true, Bool.and_true, Bool.true_and, Bool.and_false, Bool.false_and, Bool.or_true, Bool.true_or, Bool.or_false, Bool.false_or, Bool.false_eq_true, if_false, if_true, reduceIte, List.getElem?_cons_zero, List.getElem?_cons_succ, List.set_cons_zero, List.set_cons_succ, List.map_cons, List.map_nil, List.length_cons, List.length_nil, List.cons_append, List.nil_append, List.replicate_succ, List.replicate_zero, Nat.reduceAdd, Nat.reduceSub, Bool.not_true, Bool.not_false, decide_true, decide_false, Option.map_some, List.take_succ_cons, List.take_zero, v_g0, v_gk, v_s0, v_sk, v_tk, cl_isx, cl_sub, List.append_assoc, List.length_append, evSs, evS, evE, evAs, evFs, evIs, evB, evO, evIf, cl_scr, Out.bind_ok, Out.bind_exc, Out.bind_bad, R.wipe, v_onP_p, v_onP_n, v_onP_o, v_onP_f, v_int, v_bl, v_str, v_data, v_seq, v_obj, v_ix, v_of, v_retT, v_retT_b, v_retT_s, v_retT_l, v_retB, v_retB_b, v_add, v_sub, v_mul, v_mod, v_fdiv, v_pow, v_addl, v_addt, v_adds, v_mull, v_mult, v_lt, v_le, v_gt, v_ge, v_eq, v_ne, v_eqs, v_nes, v_isN, v_isNN, v_ltt, v_binR, v_frz_p, v_frz_n, v_pop_p, v_pop_n, v_sto_p, v_sto_n, v_sto_t, v_sto_o, v_lst, v_tup, v_lenR, v_len_s, v_bi_p, v_bi_n, v_bi_o, v_len_l, v_len_t, v_sum_l, v_sum_t, v_all, v_any, v_min_t, v_max_t, v_min_l, v_max_l, v_list_l, v_list_t, v_tuple_l, v_tuple_t, v_idx_t, v_idx_l, v_idx_n, v_idx_o, v_idx_s, v_tg1, v_app, v_seti, v_thn_n, v_thn_r, v_okB, v_noexc, v_arg_p, v_arg_n, v_arg_o, v_arg_s]
theorem muts (ns : List Int) (d : Nat) (b : P) : ∀ (ks : List Int) (t : Nat) (T : List Nat) (x4 x5 x6 x7 : Option Rv), t + 3 * ks.length < 800 → T.length + 3 * ks.length ≤ 800 → plainT T = true →
    ∃ T' t' y4 y5 y6 y7, t' = t + 3 * ks.length ∧ T'.length ≤ T.length + 3 * ks.length ∧ plainT T' = true ∧ forL (fun d_1 ρ μ => tgR false [4] d_1 ρ fun ρ1 => evSs (C ns (d + 4)) [s_law_4_0, s_law_4_1, s_law_4_2, s_law_4_3] ρ1 μ) (ks.map .int) (lE b (some (.p (pt T))) x4 x5 x6 x7 none none) [town t] = .ok (.nx (lE b (some (.p (pt T'))) y4 y5 y6 y7 none none)) [town t']
  | [], t, T, x4, x5, x6, x7, _, _, hp => ⟨T, t, x4, x5, x6, x7, rfl, by simp, hp, rfl⟩
  | k :: ks, t, T, x4, x5, x6, x7, h1, h2, hp => by
    simp only [List.length_cons] at h1 h2
    obtain ⟨T1, z5, z6, z7, q1, q2, e⟩ := mut_step ns d t (by omega) b T (by omega) hp k x5 x6 x7
    obtain ⟨T2, t2, y4, y5, y6, y7, r0, r1, r2, e2⟩ := muts ns d b ks (t + 3) T1 (some (.p (.int k))) z5 z6 z7 (by omega) (by omega) q2
    refine ⟨T2, t2, y4, y5, y6, y7, by simp only [List.length_cons]; omega, by simp only [List.length_cons]; omega, r2, ?_⟩
    rw [List.map_cons]
    simp only [forL, v_tg1, List.set_cons_succ, List.set_cons_zero, e, Out.bind_ok, v_thn_n]
    exact e2
theorem sum_le {k : Nat} : ∀ (l : List Nat), (∀ x ∈ l, x ≤ k) → l.sum ≤ l.length * k
  | [], _ => by simp
  | x :: l, h => by
    have ih := sum_le l fun y hy => h y (List.mem_cons_of_mem _ hy)
    have := h x (by simp)
    rw [List.sum_cons, List.length_cons, Nat.add_mul]
    omega
theorem rev_text (ns : List Int) (d t : Nat) (b : P) (T : List Nat) (hT : T.length ≤ 900) (hp : plainT T = true) (x4 x5 x6 x7 : Option Rv) :
    ∃ T', T'.length = T.length ∧ plainT T' = true ∧ evS (C ns d) s_law_5a_0 (lE b (some (.p (pt T))) x4 x5 x6 x7 none none) [town t] = .ok (.nx (lE b (some (.p (pt T'))) x4 x5 x6 x7 none none)) [town t] := by
  have hs := v_split (a := T) (b := [32]) (by simp) (by decide) (by show _ ≤ 1000000; omega)
  have hj := join_spl (S := [32]) (by simp) T
  have hpl : ∀ p ∈ TL.spl [32] 0 [] T, plainT p = true := fun p h => plain_spl hp h
  have hsh : ∀ p ∈ TL.spl [32] 0 [] T, p.length ≤ 900 := fun p h => Nat.le_trans (splS_short h) hT
  have hn := spl_len (S := [32]) T.length T [] (Nat.le_refl _)
  have hrl := joinL_rev_len (s := [32]) (TL.spl [32] 0 [] T)
  rw [hj] at hrl
  generalize TL.spl [32] 0 [] T = W at *
  refine ⟨TL.joinL [32] W.reverse, hrl, ?_, ?_⟩
  · refine plain_not fun c hc => joinL_free (by simp; omega) _ fun w hw => plain_free (hpl w (List.mem_reverse.mp hw)) hc
  · have hm : meR .split (tx T) (.p (pt [32])) [town t] = .ok (.n (W.map pt)) [town t] := by simp only [meR, v_onP_p, hs, v_of]
    have hr : revP (.lst (W.map pt)) = some (.n (W.reverse.map pt)) := by
      show some (Rv.n (List.reverse _)) = _
      rw [← List.map_reverse]
    have hsum := sum_le (k := 900) (W.reverse.map List.length) (fun x hx => by
      obtain ⟨w, hw, rfl⟩ := List.mem_map.mp hx
      exact hsh w (List.mem_reverse.mp hw))
    rw [List.length_map, List.length_reverse] at hsum
    have hjj : meP .join (pt [32]) [.lst (W.reverse.map pt)] = some (.p (pt (TL.joinL [32] W.reverse))) := v_join (by
      show _ + 1 * _ ≤ 1000000
      rw [List.length_reverse]
      have : W.length * 900 ≤ 901 * 900 := Nat.mul_le_mul_right _ (by omega)
      omega)
    have hmj : meR .join (tx [32]) (.n (W.reverse.map pt)) [town t] = .ok (.p (pt (TL.joinL [32] W.reverse))) [town t] := by simp only [meR, v_onP_n, hjj, v_of]
    generalize TL.joinL [32] W.reverse = T' at *
    generalize W.reverse.map pt = Q at *
    simp only [s_law_5a_0, l_sp, hm, hr, hmj, List.length_map, ups_len, downs_len, Int.cast_ofNat_Int, List.take_length, Nat.add_assoc, big, v_ix0, v_ix1, v_ix2, v_ix3, v_il0, v_il1, v_in0, v_in1, v_in2, v_tg2, v_sum_ti, v_sum_li, v_len_ti, v_eq_nil, v_ne_nil, v_eq_sd, v_ne_sd, tx_inj, v_in_li, v_eq_li, v_ne_li, v_eq_bd, v_ne_bd, eq_self, and_self, or_self, Int.reduceAdd, Int.reduceSub, Int.reduceMul, Int.reduceNeg, Int.reduceLT, Int.reduceLE, Int.reduceEq, Int.reduceNe, Nat.reduceLeDiff, Nat.reduceLT, decide_true, decide_false, Bool.not_not, ite_true, ite_false, Bool.true_eq_false, Bool.false_eq_true, Bool.and_true, Bool.true_and, Bool.and_false, Bool.false_and, Bool.or_true, Bool.true_or, Bool.or_false, Bool.false_or, Bool.false_eq_true, if_false, if_true, reduceIte, List.getElem?_cons_zero, List.getElem?_cons_succ, List.set_cons_zero, List.set_cons_succ, List.map_cons, List.map_nil, List.length_cons, List.length_nil, List.cons_append, List.nil_append, List.replicate_succ, List.replicate_zero, Nat.reduceAdd, Nat.reduceSub, Bool.not_true, Bool.not_false, decide_true, decide_false, Option.map_some, List.take_succ_cons, List.take_zero, v_g0, v_gk, v_s0, v_sk, v_tk, cl_isx, cl_sub, List.append_assoc, List.length_append, evSs, evS, evE, evAs, evFs, evIs, evB, evO, evIf, cl_scr, Out.bind_ok, Out.bind_exc, Out.bind_bad, R.wipe, v_onP_p, v_onP_n, v_onP_o, v_onP_f, v_int, v_bl, v_str, v_data, v_seq, v_obj, v_ix, v_of, v_retT, v_retT_b, v_retT_s, v_retT_l, v_retB, v_retB_b, v_add, v_sub, v_mul, v_mod, v_fdiv, v_pow, v_addl, v_addt, v_adds, v_mull, v_mult, v_lt, v_le, v_gt, v_ge, v_eq, v_ne, v_eqs, v_nes, v_isN, v_isNN, v_ltt, v_binR, v_frz_p, v_frz_n, v_pop_p, v_pop_n, v_sto_p, v_sto_n, v_sto_t, v_sto_o, v_lst, v_tup, v_lenR, v_len_s, v_bi_p, v_bi_n, v_bi_o, v_len_l, v_len_t, v_sum_l, v_sum_t, v_all, v_any, v_min_t, v_max_t, v_min_l, v_max_l, v_list_l, v_list_t, v_tuple_l, v_tuple_t, v_idx_t, v_idx_l, v_idx_n, v_idx_o, v_idx_s, v_tg1, v_app, v_seti, v_thn_n, v_thn_r, v_okB, v_noexc, v_arg_p, v_arg_n, v_arg_o, v_arg_s]
theorem law_end (ns : List Int) (d t : Nat) {b : Bd} (hB : isBoard b.1 b.2 = true) (T : List Nat) (hT : T.length ≤ 900) (hp : plainT T = true) (x4 x5 x6 x7 : Option Rv) :
    evSs (C ns (d + 6)) [s_law_6, s_law_7, s_law_8, s_law_9] (lE (encB b) (some (.p (pt T))) x4 x5 x6 x7 none none) [town t] = .ok (.rt (.p (.bl true))) [town t] := by
  have e6 := fn_board_of ns (d + 4) T hT hp [town t]
  have e7 := fn_told0 ns (d + 1) T hT [town t]
  have S6 : evS (C ns (d + 6)) s_law_6 (lE (encB b) (some (.p (pt T))) x4 x5 x6 x7 none none) [town t] = .ok (.nx (lE (encB b) (some (.p (pt T))) x4 x5 x6 x7 (some (.p (orNone (readB T)))) none)) [town t] := by
    generalize encB b = B at *
    generalize orNone (readB T) = V at *
    simp only [s_law_6, e6, List.length_map, ups_len, downs_len, Int.cast_ofNat_Int, List.take_length, Nat.add_assoc, big, v_ix0, v_ix1, v_ix2, v_ix3, v_il0, v_il1, v_in0, v_in1, v_in2, v_tg2, v_sum_ti, v_sum_li, v_len_ti, v_eq_nil, v_ne_nil, v_eq_sd, v_ne_sd, tx_inj, v_in_li, v_eq_li, v_ne_li, v_eq_bd, v_ne_bd, eq_self, and_self, or_self, Int.reduceAdd, Int.reduceSub, Int.reduceMul, Int.reduceNeg, Int.reduceLT, Int.reduceLE, Int.reduceEq, Int.reduceNe, Nat.reduceLeDiff, Nat.reduceLT, decide_true, decide_false, Bool.not_not, ite_true, ite_false, Bool.true_eq_false, Bool.false_eq_true, Bool.and_true, Bool.true_and, Bool.and_false, Bool.false_and, Bool.or_true, Bool.true_or, Bool.or_false, Bool.false_or, Bool.false_eq_true, if_false, if_true, reduceIte, List.getElem?_cons_zero, List.getElem?_cons_succ, List.set_cons_zero, List.set_cons_succ, List.map_cons, List.map_nil, List.length_cons, List.length_nil, List.cons_append, List.nil_append, List.replicate_succ, List.replicate_zero, Nat.reduceAdd, Nat.reduceSub, Bool.not_true, Bool.not_false, decide_true, decide_false, Option.map_some, List.take_succ_cons, List.take_zero, v_g0, v_gk, v_s0, v_sk, v_tk, cl_isx, cl_sub, List.append_assoc, List.length_append, evSs, evS, evE, evAs, evFs, evIs, evB, evO, evIf, cl_scr, Out.bind_ok, Out.bind_exc, Out.bind_bad, R.wipe, v_onP_p, v_onP_n, v_onP_o, v_onP_f, v_int, v_bl, v_str, v_data, v_seq, v_obj, v_ix, v_of, v_retT, v_retT_b, v_retT_s, v_retT_l, v_retB, v_retB_b, v_add, v_sub, v_mul, v_mod, v_fdiv, v_pow, v_addl, v_addt, v_adds, v_mull, v_mult, v_lt, v_le, v_gt, v_ge, v_eq, v_ne, v_eqs, v_nes, v_isN, v_isNN, v_ltt, v_binR, v_frz_p, v_frz_n, v_pop_p, v_pop_n, v_sto_p, v_sto_n, v_sto_t, v_sto_o, v_lst, v_tup, v_lenR, v_len_s, v_bi_p, v_bi_n, v_bi_o, v_len_l, v_len_t, v_sum_l, v_sum_t, v_all, v_any, v_min_t, v_max_t, v_min_l, v_max_l, v_list_l, v_list_t, v_tuple_l, v_tuple_t, v_idx_t, v_idx_l, v_idx_n, v_idx_o, v_idx_s, v_tg1, v_app, v_seti, v_thn_n, v_thn_r, v_okB, v_noexc, v_arg_p, v_arg_n, v_arg_o, v_arg_s]
  have S7 : evS (C ns (d + 6)) s_law_7 (lE (encB b) (some (.p (pt T))) x4 x5 x6 x7 (some (.p (orNone (readB T)))) none) [town t] = .ok (.nx (lE (encB b) (some (.p (pt T))) x4 x5 x6 x7 (some (.p (orNone (readB T)))) none)) [town t] := by
    unfold rdV at e7
    unfold orNone
    cases hr : readB T with
    | some c =>
      rw [hr] at e7
      simp only at e7 ⊢
      have ne : ∀ f : Bool → Out Rv, cmpR .NotEq (.p (encB c)) (.p (encB c)) [town t] f = f false := fun f => (v_neg_ (p := True) (good_encB (n := 6)) (good_encB (n := 6)) (by simp)).trans (by simp)
      have eB : encB c = .tup [sd c.1, sd c.2] := rfl
      rw [eB] at e7 ne ⊢
      generalize sd c.1 = X at *
      generalize sd c.2 = Y at *
      generalize encB b = B at *
      simp only [s_law_7, s_law_7a_0, e7, ne, List.length_map, ups_len, downs_len, Int.cast_ofNat_Int, List.take_length, Nat.add_assoc, big, v_ix0, v_ix1, v_ix2, v_ix3, v_il0, v_il1, v_in0, v_in1, v_in2, v_tg2, v_sum_ti, v_sum_li, v_len_ti, v_eq_nil, v_ne_nil, v_eq_sd, v_ne_sd, tx_inj, v_in_li, v_eq_li, v_ne_li, v_eq_bd, v_ne_bd, eq_self, and_self, or_self, Int.reduceAdd, Int.reduceSub, Int.reduceMul, Int.reduceNeg, Int.reduceLT, Int.reduceLE, Int.reduceEq, Int.reduceNe, Nat.reduceLeDiff, Nat.reduceLT, decide_true, decide_false, Bool.not_not, ite_true, ite_false, Bool.true_eq_false, Bool.false_eq_true, Bool.and_true, Bool.true_and, Bool.and_false, Bool.false_and, Bool.or_true, Bool.true_or, Bool.or_false, Bool.false_or, Bool.false_eq_true, if_false, if_true, reduceIte, List.getElem?_cons_zero, List.getElem?_cons_succ, List.set_cons_zero, List.set_cons_succ, List.map_cons, List.map_nil, List.length_cons, List.length_nil, List.cons_append, List.nil_append, List.replicate_succ, List.replicate_zero, Nat.reduceAdd, Nat.reduceSub, Bool.not_true, Bool.not_false, decide_true, decide_false, Option.map_some, List.take_succ_cons, List.take_zero, v_g0, v_gk, v_s0, v_sk, v_tk, cl_isx, cl_sub, List.append_assoc, List.length_append, evSs, evS, evE, evAs, evFs, evIs, evB, evO, evIf, cl_scr, Out.bind_ok, Out.bind_exc, Out.bind_bad, R.wipe, v_onP_p, v_onP_n, v_onP_o, v_onP_f, v_int, v_bl, v_str, v_data, v_seq, v_obj, v_ix, v_of, v_retT, v_retT_b, v_retT_s, v_retT_l, v_retB, v_retB_b, v_add, v_sub, v_mul, v_mod, v_fdiv, v_pow, v_addl, v_addt, v_adds, v_mull, v_mult, v_lt, v_le, v_gt, v_ge, v_eq, v_ne, v_eqs, v_nes, v_isN, v_isNN, v_ltt, v_binR, v_frz_p, v_frz_n, v_pop_p, v_pop_n, v_sto_p, v_sto_n, v_sto_t, v_sto_o, v_lst, v_tup, v_lenR, v_len_s, v_bi_p, v_bi_n, v_bi_o, v_len_l, v_len_t, v_sum_l, v_sum_t, v_all, v_any, v_min_t, v_max_t, v_min_l, v_max_l, v_list_l, v_list_t, v_tuple_l, v_tuple_t, v_idx_t, v_idx_l, v_idx_n, v_idx_o, v_idx_s, v_tg1, v_app, v_seti, v_thn_n, v_thn_r, v_okB, v_noexc, v_arg_p, v_arg_n, v_arg_o, v_arg_s]
    | none =>
      rw [hr] at e7
      simp only at e7 ⊢
      have ne : ∀ f : Bool → Out Rv, cmpR .NotEq (.p (refd "text")) (.p (.tup [.str "refused", .str "text"])) [town t] f = f false := fun f => ne_refd (by decide +kernel)
      generalize encB b = B at *
      simp only [s_law_7, s_law_7a_0, e7, ne, List.length_map, ups_len, downs_len, Int.cast_ofNat_Int, List.take_length, Nat.add_assoc, big, v_ix0, v_ix1, v_ix2, v_ix3, v_il0, v_il1, v_in0, v_in1, v_in2, v_tg2, v_sum_ti, v_sum_li, v_len_ti, v_eq_nil, v_ne_nil, v_eq_sd, v_ne_sd, tx_inj, v_in_li, v_eq_li, v_ne_li, v_eq_bd, v_ne_bd, eq_self, and_self, or_self, Int.reduceAdd, Int.reduceSub, Int.reduceMul, Int.reduceNeg, Int.reduceLT, Int.reduceLE, Int.reduceEq, Int.reduceNe, Nat.reduceLeDiff, Nat.reduceLT, decide_true, decide_false, Bool.not_not, ite_true, ite_false, Bool.true_eq_false, Bool.false_eq_true, Bool.and_true, Bool.true_and, Bool.and_false, Bool.false_and, Bool.or_true, Bool.true_or, Bool.or_false, Bool.false_or, Bool.false_eq_true, if_false, if_true, reduceIte, List.getElem?_cons_zero, List.getElem?_cons_succ, List.set_cons_zero, List.set_cons_succ, List.map_cons, List.map_nil, List.length_cons, List.length_nil, List.cons_append, List.nil_append, List.replicate_succ, List.replicate_zero, Nat.reduceAdd, Nat.reduceSub, Bool.not_true, Bool.not_false, decide_true, decide_false, Option.map_some, List.take_succ_cons, List.take_zero, v_g0, v_gk, v_s0, v_sk, v_tk, cl_isx, cl_sub, List.append_assoc, List.length_append, evSs, evS, evE, evAs, evFs, evIs, evB, evO, evIf, cl_scr, Out.bind_ok, Out.bind_exc, Out.bind_bad, R.wipe, v_onP_p, v_onP_n, v_onP_o, v_onP_f, v_int, v_bl, v_str, v_data, v_seq, v_obj, v_ix, v_of, v_retT, v_retT_b, v_retT_s, v_retT_l, v_retB, v_retB_b, v_add, v_sub, v_mul, v_mod, v_fdiv, v_pow, v_addl, v_addt, v_adds, v_mull, v_mult, v_lt, v_le, v_gt, v_ge, v_eq, v_ne, v_eqs, v_nes, v_isN, v_isNN, v_ltt, v_binR, v_frz_p, v_frz_n, v_pop_p, v_pop_n, v_sto_p, v_sto_n, v_sto_t, v_sto_o, v_lst, v_tup, v_lenR, v_len_s, v_bi_p, v_bi_n, v_bi_o, v_len_l, v_len_t, v_sum_l, v_sum_t, v_all, v_any, v_min_t, v_max_t, v_min_l, v_max_l, v_list_l, v_list_t, v_tuple_l, v_tuple_t, v_idx_t, v_idx_l, v_idx_n, v_idx_o, v_idx_s, v_tg1, v_app, v_seti, v_thn_n, v_thn_r, v_okB, v_noexc, v_arg_p, v_arg_n, v_arg_o, v_arg_s]
  obtain ⟨a, c⟩ := b
  obtain ⟨sa, sc, hs, _⟩ := isBoard_iff.mp hB
  simp only at sa sc hs hB
  obtain ⟨la, na, ha⟩ := isSide_iff.mp sa
  obtain ⟨lc, nc, hc⟩ := isSide_iff.mp sc
  have hbc := side_b sc (i := 0) (by omega) (by omega)
  obtain ⟨c0, cs, rfl⟩ := List.exists_cons_of_length_pos (l := c) (by omega)
  have hc0 : gi (c0 :: cs) 0 = c0 := rfl
  rw [hc0] at hbc
  have hbad : isBoard a ((c0 + 1) :: cs) = false := by
    cases hh : isBoard a ((c0 + 1) :: cs) with
    | false => rfl
    | true =>
      have h3 : a.sum = c0 + 1 + cs.sum := (isBoard_iff.mp hh).2.2.1
      have h4 : a.sum = c0 + cs.sum := hs
      omega
  have e9 := fn_told1_bad ns (d + 2) (b := (a, (c0 + 1) :: cs)) (by show a.length ≤ 1000; omega) (by show ((c0 + 1) :: cs).length ≤ 1000; simp only [List.length_cons] at lc ⊢; omega) hbad [town t]
  have i0 : idxR ns (.p (encB (a, c0 :: cs))) (.p (.int 0)) [town t] = .ok (.p (sd a)) [town t] := v_ix0
  have i1 : idxR ns (.p (encB (a, c0 :: cs))) (.p (.int 1)) [town t] = .ok (.p (sd (c0 :: cs))) [town t] := v_ix1
  have g : idxR ns (.p (sd (c0 :: cs))) (.p (.int 0)) [town t] = .ok (.p (.int c0)) [town t] := v_sd (scr := ns) (xs := c0 :: cs) (μ := [town t]) (i := 0) (by omega) (by omega)
  have cut : slcP (sd (c0 :: cs)) (some 1) none = some (.p (.tup (cs.map .int))) := v_cutf (a := c0 :: cs) (k := 1) (by omega) (by simp only [List.length_cons]; omega)
  have ad : binP .Add (.tup [.int (c0 + 1)]) (.tup (cs.map .int)) = some (.p (sd ((c0 + 1) :: cs))) := v_addti (xs := [c0 + 1]) (ys := cs) (by simp only [List.length_cons, List.length_nil] at lc ⊢; show _ ≤ 1000000; omega)
  have eT : P.tup [sd a, sd ((c0 + 1) :: cs)] = encB (a, (c0 + 1) :: cs) := rfl
  have eq : ∀ f : Bool → Out Rv, cmpR .Eq (.p (refd "board")) (.p (.tup [.str "refused", .str "board"])) [town t] f = f true := fun f => eq_refd (by decide +kernel)
  generalize encB (a, c0 :: cs) = B at *
  generalize encB (a, (c0 + 1) :: cs) = B2 at *
  generalize sd a = A at *
  generalize sd (c0 :: cs) = A1 at *
  generalize sd ((c0 + 1) :: cs) = A2 at *
  generalize cs.map P.int = A3 at *
  generalize orNone (readB T) = V at *
  have S8 : evS (C ns (d + 6)) s_law_8 (lE B (some (.p (pt T))) x4 x5 x6 x7 (some (.p V)) none) [town t] = .ok (.nx (lE B (some (.p (pt T))) x4 x5 x6 x7 (some (.p V)) (some (.p B2)))) [town t] := by
    simp only [s_law_8, i0, i1, g, cut, ad, eT, List.length_map, ups_len, downs_len, Int.cast_ofNat_Int, List.take_length, Nat.add_assoc, big, v_ix0, v_ix1, v_ix2, v_ix3, v_il0, v_il1, v_in0, v_in1, v_in2, v_tg2, v_sum_ti, v_sum_li, v_len_ti, v_eq_nil, v_ne_nil, v_eq_sd, v_ne_sd, tx_inj, v_in_li, v_eq_li, v_ne_li, v_eq_bd, v_ne_bd, eq_self, and_self, or_self, Int.reduceAdd, Int.reduceSub, Int.reduceMul, Int.reduceNeg, Int.reduceLT, Int.reduceLE, Int.reduceEq, Int.reduceNe, Nat.reduceLeDiff, Nat.reduceLT, decide_true, decide_false, Bool.not_not, ite_true, ite_false, Bool.true_eq_false, Bool.false_eq_true, Bool.and_true, Bool.true_and, Bool.and_false, Bool.false_and, Bool.or_true, Bool.true_or, Bool.or_false, Bool.false_or, Bool.false_eq_true, if_false, if_true, reduceIte, List.getElem?_cons_zero, List.getElem?_cons_succ, List.set_cons_zero, List.set_cons_succ, List.map_cons, List.map_nil, List.length_cons, List.length_nil, List.cons_append, List.nil_append, List.replicate_succ, List.replicate_zero, Nat.reduceAdd, Nat.reduceSub, Bool.not_true, Bool.not_false, decide_true, decide_false, Option.map_some, List.take_succ_cons, List.take_zero, v_g0, v_gk, v_s0, v_sk, v_tk, cl_isx, cl_sub, List.append_assoc, List.length_append, evSs, evS, evE, evAs, evFs, evIs, evB, evO, evIf, cl_scr, Out.bind_ok, Out.bind_exc, Out.bind_bad, R.wipe, v_onP_p, v_onP_n, v_onP_o, v_onP_f, v_int, v_bl, v_str, v_data, v_seq, v_obj, v_ix, v_of, v_retT, v_retT_b, v_retT_s, v_retT_l, v_retB, v_retB_b, v_add, v_sub, v_mul, v_mod, v_fdiv, v_pow, v_addl, v_addt, v_adds, v_mull, v_mult, v_lt, v_le, v_gt, v_ge, v_eq, v_ne, v_eqs, v_nes, v_isN, v_isNN, v_ltt, v_binR, v_frz_p, v_frz_n, v_pop_p, v_pop_n, v_sto_p, v_sto_n, v_sto_t, v_sto_o, v_lst, v_tup, v_lenR, v_len_s, v_bi_p, v_bi_n, v_bi_o, v_len_l, v_len_t, v_sum_l, v_sum_t, v_all, v_any, v_min_t, v_max_t, v_min_l, v_max_l, v_list_l, v_list_t, v_tuple_l, v_tuple_t, v_idx_t, v_idx_l, v_idx_n, v_idx_o, v_idx_s, v_tg1, v_app, v_seti, v_thn_n, v_thn_r, v_okB, v_noexc, v_arg_p, v_arg_n, v_arg_o, v_arg_s]
  have S9 : evS (C ns (d + 6)) s_law_9 (lE B (some (.p (pt T))) x4 x5 x6 x7 (some (.p V)) (some (.p B2))) [town t] = .ok (.rt (.p (.bl true))) [town t] := by
    simp only [s_law_9, e9, eq, List.length_map, ups_len, downs_len, Int.cast_ofNat_Int, List.take_length, Nat.add_assoc, big, v_ix0, v_ix1, v_ix2, v_ix3, v_il0, v_il1, v_in0, v_in1, v_in2, v_tg2, v_sum_ti, v_sum_li, v_len_ti, v_eq_nil, v_ne_nil, v_eq_sd, v_ne_sd, tx_inj, v_in_li, v_eq_li, v_ne_li, v_eq_bd, v_ne_bd, eq_self, and_self, or_self, Int.reduceAdd, Int.reduceSub, Int.reduceMul, Int.reduceNeg, Int.reduceLT, Int.reduceLE, Int.reduceEq, Int.reduceNe, Nat.reduceLeDiff, Nat.reduceLT, decide_true, decide_false, Bool.not_not, ite_true, ite_false, Bool.true_eq_false, Bool.false_eq_true, Bool.and_true, Bool.true_and, Bool.and_false, Bool.false_and, Bool.or_true, Bool.true_or, Bool.or_false, Bool.false_or, Bool.false_eq_true, if_false, if_true, reduceIte, List.getElem?_cons_zero, List.getElem?_cons_succ, List.set_cons_zero, List.set_cons_succ, List.map_cons, List.map_nil, List.length_cons, List.length_nil, List.cons_append, List.nil_append, List.replicate_succ, List.replicate_zero, Nat.reduceAdd, Nat.reduceSub, Bool.not_true, Bool.not_false, decide_true, decide_false, Option.map_some, List.take_succ_cons, List.take_zero, v_g0, v_gk, v_s0, v_sk, v_tk, cl_isx, cl_sub, List.append_assoc, List.length_append, evSs, evS, evE, evAs, evFs, evIs, evB, evO, evIf, cl_scr, Out.bind_ok, Out.bind_exc, Out.bind_bad, R.wipe, v_onP_p, v_onP_n, v_onP_o, v_onP_f, v_int, v_bl, v_str, v_data, v_seq, v_obj, v_ix, v_of, v_retT, v_retT_b, v_retT_s, v_retT_l, v_retB, v_retB_b, v_add, v_sub, v_mul, v_mod, v_fdiv, v_pow, v_addl, v_addt, v_adds, v_mull, v_mult, v_lt, v_le, v_gt, v_ge, v_eq, v_ne, v_eqs, v_nes, v_isN, v_isNN, v_ltt, v_binR, v_frz_p, v_frz_n, v_pop_p, v_pop_n, v_sto_p, v_sto_n, v_sto_t, v_sto_o, v_lst, v_tup, v_lenR, v_len_s, v_bi_p, v_bi_n, v_bi_o, v_len_l, v_len_t, v_sum_l, v_sum_t, v_all, v_any, v_min_t, v_max_t, v_min_l, v_max_l, v_list_l, v_list_t, v_tuple_l, v_tuple_t, v_idx_t, v_idx_l, v_idx_n, v_idx_o, v_idx_s, v_tg1, v_app, v_seti, v_thn_n, v_thn_r, v_okB, v_noexc, v_arg_p, v_arg_n, v_arg_o, v_arg_s]
  exact (ss_next S6).trans ((ss_next S7).trans ((ss_next S8).trans (ss_last S9)))
theorem law_at (ns : List Int) (d : Nat) : (C ns (d + 7)).fn 20 [.scr] [] = .ok (.p (.bl true)) [] := by
  rw [cl_fn (f := f_law) rfl]
  obtain ⟨hb, hs, ht⟩ := boardV_is ns 0 (most := 15) (by decide) (by decide)
  have e1 := fn_board ns (d + 1) 0 (by decide) (most := 15) (by decide) (by decide) []
  generalize boardV ns 0 15 = bv at *
  obtain ⟨a, b, t⟩ := bv
  simp only at *
  have ht' : t ≤ 61 := ht
  have hB : isBoard (a, b).1 (a, b).2 = true := hb
  obtain ⟨sa, sb, _⟩ := isBoard_iff.mp hb
  have tw : town 0 = .lst [] := rfl
  rw [tw] at e1
  have e2 := fn_ltext ns (d + 5) sa sb [town t]
  have e3 := fn_told1 ns (d + 2) hB [town t]
  have lb := boardC_len hB
  have e4 := fn_told0 ns (d + 1) (boardC (a, b)) (by omega) [town t]
  unfold rdV at e4
  rw [readB_back hB] at e4
  simp only at e4
  have neB : ∀ f : Bool → Out Rv, cmpR .NotEq (.p (encB (a, b))) (.p (encB (a, b))) [town t] f = f false := fun f => (v_neg_ (p := True) (good_encB (n := 6)) (good_encB (n := 6)) (by simp)).trans (by simp)
  have eB : bd a b = encB (a, b) := rfl
  rw [eB] at e1 e2
  have S0 : evS (C ns (d + 6)) s_law_0 [some .scr, none, none, none, none, none, none, none, none, none] [] = .ok (.nx [some .scr, some (.o 0), none, none, none, none, none, none, none, none]) [.lst []] := by
    simp only [s_law_0, List.length_map, ups_len, downs_len, Int.cast_ofNat_Int, List.take_length, Nat.add_assoc, big, v_ix0, v_ix1, v_ix2, v_ix3, v_il0, v_il1, v_in0, v_in1, v_in2, v_tg2, v_sum_ti, v_sum_li, v_len_ti, v_eq_nil, v_ne_nil, v_eq_sd, v_ne_sd, tx_inj, v_in_li, v_eq_li, v_ne_li, v_eq_bd, v_ne_bd, eq_self, and_self, or_self, Int.reduceAdd, Int.reduceSub, Int.reduceMul, Int.reduceNeg, Int.reduceLT, Int.reduceLE, Int.reduceEq, Int.reduceNe, Nat.reduceLeDiff, Nat.reduceLT, decide_true, decide_false, Bool.not_not, ite_true, ite_false, Bool.true_eq_false, Bool.false_eq_true, Bool.and_true, Bool.true_and, Bool.and_false, Bool.false_and, Bool.or_true, Bool.true_or, Bool.or_false, Bool.false_or, Bool.false_eq_true, if_false, if_true, reduceIte, List.getElem?_cons_zero, List.getElem?_cons_succ, List.set_cons_zero, List.set_cons_succ, List.map_cons, List.map_nil, List.length_cons, List.length_nil, List.cons_append, List.nil_append, List.replicate_succ, List.replicate_zero, Nat.reduceAdd, Nat.reduceSub, Bool.not_true, Bool.not_false, decide_true, decide_false, Option.map_some, List.take_succ_cons, List.take_zero, v_g0, v_gk, v_s0, v_sk, v_tk, cl_isx, cl_sub, List.append_assoc, List.length_append, evSs, evS, evE, evAs, evFs, evIs, evB, evO, evIf, cl_scr, Out.bind_ok, Out.bind_exc, Out.bind_bad, R.wipe, v_onP_p, v_onP_n, v_onP_o, v_onP_f, v_int, v_bl, v_str, v_data, v_seq, v_obj, v_ix, v_of, v_retT, v_retT_b, v_retT_s, v_retT_l, v_retB, v_retB_b, v_add, v_sub, v_mul, v_mod, v_fdiv, v_pow, v_addl, v_addt, v_adds, v_mull, v_mult, v_lt, v_le, v_gt, v_ge, v_eq, v_ne, v_eqs, v_nes, v_isN, v_isNN, v_ltt, v_binR, v_frz_p, v_frz_n, v_pop_p, v_pop_n, v_sto_p, v_sto_n, v_sto_t, v_sto_o, v_lst, v_tup, v_lenR, v_len_s, v_bi_p, v_bi_n, v_bi_o, v_len_l, v_len_t, v_sum_l, v_sum_t, v_all, v_any, v_min_t, v_max_t, v_min_l, v_max_l, v_list_l, v_list_t, v_tuple_l, v_tuple_t, v_idx_t, v_idx_l, v_idx_n, v_idx_o, v_idx_s, v_tg1, v_app, v_seti, v_thn_n, v_thn_r, v_okB, v_noexc, v_arg_p, v_arg_n, v_arg_o, v_arg_s]
  have S1 : evS (C ns (d + 6)) s_law_1 [some .scr, some (.o 0), none, none, none, none, none, none, none, none] [.lst []] = .ok (.nx (lE (encB (a, b)) none none none none none none none)) [town t] := by
    generalize encB (a, b) = B at *
    simp only [s_law_1, e1, List.length_map, ups_len, downs_len, Int.cast_ofNat_Int, List.take_length, Nat.add_assoc, big, v_ix0, v_ix1, v_ix2, v_ix3, v_il0, v_il1, v_in0, v_in1, v_in2, v_tg2, v_sum_ti, v_sum_li, v_len_ti, v_eq_nil, v_ne_nil, v_eq_sd, v_ne_sd, tx_inj, v_in_li, v_eq_li, v_ne_li, v_eq_bd, v_ne_bd, eq_self, and_self, or_self, Int.reduceAdd, Int.reduceSub, Int.reduceMul, Int.reduceNeg, Int.reduceLT, Int.reduceLE, Int.reduceEq, Int.reduceNe, Nat.reduceLeDiff, Nat.reduceLT, decide_true, decide_false, Bool.not_not, ite_true, ite_false, Bool.true_eq_false, Bool.false_eq_true, Bool.and_true, Bool.true_and, Bool.and_false, Bool.false_and, Bool.or_true, Bool.true_or, Bool.or_false, Bool.false_or, Bool.false_eq_true, if_false, if_true, reduceIte, List.getElem?_cons_zero, List.getElem?_cons_succ, List.set_cons_zero, List.set_cons_succ, List.map_cons, List.map_nil, List.length_cons, List.length_nil, List.cons_append, List.nil_append, List.replicate_succ, List.replicate_zero, Nat.reduceAdd, Nat.reduceSub, Bool.not_true, Bool.not_false, decide_true, decide_false, Option.map_some, List.take_succ_cons, List.take_zero, v_g0, v_gk, v_s0, v_sk, v_tk, cl_isx, cl_sub, List.append_assoc, List.length_append, evSs, evS, evE, evAs, evFs, evIs, evB, evO, evIf, cl_scr, Out.bind_ok, Out.bind_exc, Out.bind_bad, R.wipe, v_onP_p, v_onP_n, v_onP_o, v_onP_f, v_int, v_bl, v_str, v_data, v_seq, v_obj, v_ix, v_of, v_retT, v_retT_b, v_retT_s, v_retT_l, v_retB, v_retB_b, v_add, v_sub, v_mul, v_mod, v_fdiv, v_pow, v_addl, v_addt, v_adds, v_mull, v_mult, v_lt, v_le, v_gt, v_ge, v_eq, v_ne, v_eqs, v_nes, v_isN, v_isNN, v_ltt, v_binR, v_frz_p, v_frz_n, v_pop_p, v_pop_n, v_sto_p, v_sto_n, v_sto_t, v_sto_o, v_lst, v_tup, v_lenR, v_len_s, v_bi_p, v_bi_n, v_bi_o, v_len_l, v_len_t, v_sum_l, v_sum_t, v_all, v_any, v_min_t, v_max_t, v_min_l, v_max_l, v_list_l, v_list_t, v_tuple_l, v_tuple_t, v_idx_t, v_idx_l, v_idx_n, v_idx_o, v_idx_s, v_tg1, v_app, v_seti, v_thn_n, v_thn_r, v_okB, v_noexc, v_arg_p, v_arg_n, v_arg_o, v_arg_s]
  have S2 : evS (C ns (d + 6)) s_law_2 (lE (encB (a, b)) none none none none none none none) [town t] = .ok (.nx (lE (encB (a, b)) (some (.p (pt (boardC (a, b))))) none none none none none none)) [town t] := by
    generalize encB (a, b) = B at *
    generalize boardC (a, b) = T at *
    simp only [s_law_2, e2, List.length_map, ups_len, downs_len, Int.cast_ofNat_Int, List.take_length, Nat.add_assoc, big, v_ix0, v_ix1, v_ix2, v_ix3, v_il0, v_il1, v_in0, v_in1, v_in2, v_tg2, v_sum_ti, v_sum_li, v_len_ti, v_eq_nil, v_ne_nil, v_eq_sd, v_ne_sd, tx_inj, v_in_li, v_eq_li, v_ne_li, v_eq_bd, v_ne_bd, eq_self, and_self, or_self, Int.reduceAdd, Int.reduceSub, Int.reduceMul, Int.reduceNeg, Int.reduceLT, Int.reduceLE, Int.reduceEq, Int.reduceNe, Nat.reduceLeDiff, Nat.reduceLT, decide_true, decide_false, Bool.not_not, ite_true, ite_false, Bool.true_eq_false, Bool.false_eq_true, Bool.and_true, Bool.true_and, Bool.and_false, Bool.false_and, Bool.or_true, Bool.true_or, Bool.or_false, Bool.false_or, Bool.false_eq_true, if_false, if_true, reduceIte, List.getElem?_cons_zero, List.getElem?_cons_succ, List.set_cons_zero, List.set_cons_succ, List.map_cons, List.map_nil, List.length_cons, List.length_nil, List.cons_append, List.nil_append, List.replicate_succ, List.replicate_zero, Nat.reduceAdd, Nat.reduceSub, Bool.not_true, Bool.not_false, decide_true, decide_false, Option.map_some, List.take_succ_cons, List.take_zero, v_g0, v_gk, v_s0, v_sk, v_tk, cl_isx, cl_sub, List.append_assoc, List.length_append, evSs, evS, evE, evAs, evFs, evIs, evB, evO, evIf, cl_scr, Out.bind_ok, Out.bind_exc, Out.bind_bad, R.wipe, v_onP_p, v_onP_n, v_onP_o, v_onP_f, v_int, v_bl, v_str, v_data, v_seq, v_obj, v_ix, v_of, v_retT, v_retT_b, v_retT_s, v_retT_l, v_retB, v_retB_b, v_add, v_sub, v_mul, v_mod, v_fdiv, v_pow, v_addl, v_addt, v_adds, v_mull, v_mult, v_lt, v_le, v_gt, v_ge, v_eq, v_ne, v_eqs, v_nes, v_isN, v_isNN, v_ltt, v_binR, v_frz_p, v_frz_n, v_pop_p, v_pop_n, v_sto_p, v_sto_n, v_sto_t, v_sto_o, v_lst, v_tup, v_lenR, v_len_s, v_bi_p, v_bi_n, v_bi_o, v_len_l, v_len_t, v_sum_l, v_sum_t, v_all, v_any, v_min_t, v_max_t, v_min_l, v_max_l, v_list_l, v_list_t, v_tuple_l, v_tuple_t, v_idx_t, v_idx_l, v_idx_n, v_idx_o, v_idx_s, v_tg1, v_app, v_seti, v_thn_n, v_thn_r, v_okB, v_noexc, v_arg_p, v_arg_n, v_arg_o, v_arg_s]
  have S3 : evS (C ns (d + 6)) s_law_3 (lE (encB (a, b)) (some (.p (pt (boardC (a, b))))) none none none none none none) [town t] = .ok (.nx (lE (encB (a, b)) (some (.p (pt (boardC (a, b))))) none none none none none none)) [town t] := by
    generalize encB (a, b) = B at *
    generalize boardC (a, b) = T at *
    simp only [s_law_3, s_law_3a_0, e3, e4, neB, List.length_map, ups_len, downs_len, Int.cast_ofNat_Int, List.take_length, Nat.add_assoc, big, v_ix0, v_ix1, v_ix2, v_ix3, v_il0, v_il1, v_in0, v_in1, v_in2, v_tg2, v_sum_ti, v_sum_li, v_len_ti, v_eq_nil, v_ne_nil, v_eq_sd, v_ne_sd, tx_inj, v_in_li, v_eq_li, v_ne_li, v_eq_bd, v_ne_bd, eq_self, and_self, or_self, Int.reduceAdd, Int.reduceSub, Int.reduceMul, Int.reduceNeg, Int.reduceLT, Int.reduceLE, Int.reduceEq, Int.reduceNe, Nat.reduceLeDiff, Nat.reduceLT, decide_true, decide_false, Bool.not_not, ite_true, ite_false, Bool.true_eq_false, Bool.false_eq_true, Bool.and_true, Bool.true_and, Bool.and_false, Bool.false_and, Bool.or_true, Bool.true_or, Bool.or_false, Bool.false_or, Bool.false_eq_true, if_false, if_true, reduceIte, List.getElem?_cons_zero, List.getElem?_cons_succ, List.set_cons_zero, List.set_cons_succ, List.map_cons, List.map_nil, List.length_cons, List.length_nil, List.cons_append, List.nil_append, List.replicate_succ, List.replicate_zero, Nat.reduceAdd, Nat.reduceSub, Bool.not_true, Bool.not_false, decide_true, decide_false, Option.map_some, List.take_succ_cons, List.take_zero, v_g0, v_gk, v_s0, v_sk, v_tk, cl_isx, cl_sub, List.append_assoc, List.length_append, evSs, evS, evE, evAs, evFs, evIs, evB, evO, evIf, cl_scr, Out.bind_ok, Out.bind_exc, Out.bind_bad, R.wipe, v_onP_p, v_onP_n, v_onP_o, v_onP_f, v_int, v_bl, v_str, v_data, v_seq, v_obj, v_ix, v_of, v_retT, v_retT_b, v_retT_s, v_retT_l, v_retB, v_retB_b, v_add, v_sub, v_mul, v_mod, v_fdiv, v_pow, v_addl, v_addt, v_adds, v_mull, v_mult, v_lt, v_le, v_gt, v_ge, v_eq, v_ne, v_eqs, v_nes, v_isN, v_isNN, v_ltt, v_binR, v_frz_p, v_frz_n, v_pop_p, v_pop_n, v_sto_p, v_sto_n, v_sto_t, v_sto_o, v_lst, v_tup, v_lenR, v_len_s, v_bi_p, v_bi_n, v_bi_o, v_len_l, v_len_t, v_sum_l, v_sum_t, v_all, v_any, v_min_t, v_max_t, v_min_l, v_max_l, v_list_l, v_list_t, v_tuple_l, v_tuple_t, v_idx_t, v_idx_l, v_idx_n, v_idx_o, v_idx_s, v_tg1, v_app, v_seti, v_thn_n, v_thn_r, v_okB, v_noexc, v_arg_p, v_arg_n, v_arg_o, v_arg_s]
  have plB := plain_boardC (a, b)
  obtain ⟨w1, w2⟩ := drawV_b ns t (n := 2) (by decide)
  have e5 := fn_draw ns (d + 3) t 2 [] (by decide) (by omega)
  generalize drawV ns t 2 = w at *
  obtain ⟨T, t2, y4, y5, y6, y7, q0, q1, q2, eL⟩ := muts ns (d + 2) (encB (a, b)) (ups 0 (1 + w).toNat) (t + 1) (boardC (a, b)) none none none none (by rw [ups_len]; omega) (by rw [ups_len]; omega) plB
  rw [ups_len] at q0 q1
  have rg : rngP [1 + w] = some ((ups 0 (1 + w).toNat).map .int) := by
    have := rng_n (n := (1 + w).toNat) (by omega)
    rw [Int.toNat_of_nonneg (by omega)] at this
    exact this
  have S4 : evS (C ns (d + 6)) s_law_4 (lE (encB (a, b)) (some (.p (pt (boardC (a, b))))) none none none none none none) [town t] = .ok (.nx (lE (encB (a, b)) (some (.p (pt T))) y4 y5 y6 y7 none none)) [town t2] := by
    rw [← eL]
    generalize encB (a, b) = B at *
    generalize boardC (a, b) = T0 at *
    generalize hF : [s_law_4_0, s_law_4_1, s_law_4_2, s_law_4_3] = F
    simp only [s_law_4, hF, rg, e5, List.length_map, ups_len, downs_len, Int.cast_ofNat_Int, List.take_length, Nat.add_assoc, big, v_ix0, v_ix1, v_ix2, v_ix3, v_il0, v_il1, v_in0, v_in1, v_in2, v_tg2, v_sum_ti, v_sum_li, v_len_ti, v_eq_nil, v_ne_nil, v_eq_sd, v_ne_sd, tx_inj, v_in_li, v_eq_li, v_ne_li, v_eq_bd, v_ne_bd, eq_self, and_self, or_self, Int.reduceAdd, Int.reduceSub, Int.reduceMul, Int.reduceNeg, Int.reduceLT, Int.reduceLE, Int.reduceEq, Int.reduceNe, Nat.reduceLeDiff, Nat.reduceLT, decide_true, decide_false, Bool.not_not, ite_true, ite_false, Bool.true_eq_false, Bool.false_eq_true, Bool.and_true, Bool.true_and, Bool.and_false, Bool.false_and, Bool.or_true, Bool.true_or, Bool.or_false, Bool.false_or, Bool.false_eq_true, if_false, if_true, reduceIte, List.getElem?_cons_zero, List.getElem?_cons_succ, List.set_cons_zero, List.set_cons_succ, List.map_cons, List.map_nil, List.length_cons, List.length_nil, List.cons_append, List.nil_append, List.replicate_succ, List.replicate_zero, Nat.reduceAdd, Nat.reduceSub, Bool.not_true, Bool.not_false, decide_true, decide_false, Option.map_some, List.take_succ_cons, List.take_zero, v_g0, v_gk, v_s0, v_sk, v_tk, cl_isx, cl_sub, List.append_assoc, List.length_append, evSs, evS, evE, evAs, evFs, evIs, evB, evO, evIf, cl_scr, Out.bind_ok, Out.bind_exc, Out.bind_bad, R.wipe, v_onP_p, v_onP_n, v_onP_o, v_onP_f, v_int, v_bl, v_str, v_data, v_seq, v_obj, v_ix, v_of, v_retT, v_retT_b, v_retT_s, v_retT_l, v_retB, v_retB_b, v_add, v_sub, v_mul, v_mod, v_fdiv, v_pow, v_addl, v_addt, v_adds, v_mull, v_mult, v_lt, v_le, v_gt, v_ge, v_eq, v_ne, v_eqs, v_nes, v_isN, v_isNN, v_ltt, v_binR, v_frz_p, v_frz_n, v_pop_p, v_pop_n, v_sto_p, v_sto_n, v_sto_t, v_sto_o, v_lst, v_tup, v_lenR, v_len_s, v_bi_p, v_bi_n, v_bi_o, v_len_l, v_len_t, v_sum_l, v_sum_t, v_all, v_any, v_min_t, v_max_t, v_min_l, v_max_l, v_list_l, v_list_t, v_tuple_l, v_tuple_t, v_idx_t, v_idx_l, v_idx_n, v_idx_o, v_idx_s, v_tg1, v_app, v_seti, v_thn_n, v_thn_r, v_okB, v_noexc, v_arg_p, v_arg_n, v_arg_o, v_arg_s]
  obtain ⟨u1, u2⟩ := drawV_b ns t2 (n := 4) (by decide)
  have e6 := fn_draw ns (d + 3) t2 4 [] (by decide) (by omega)
  generalize drawV ns t2 4 = u at *
  have S5 : ∃ T', T'.length ≤ 900 ∧ plainT T' = true ∧ evS (C ns (d + 6)) s_law_5 (lE (encB (a, b)) (some (.p (pt T))) y4 y5 y6 y7 none none) [town t2] = .ok (.nx (lE (encB (a, b)) (some (.p (pt T'))) y4 y5 y6 y7 none none)) [town (t2 + 1)] := by
    generalize encB (a, b) = B at *
    by_cases hu : u = 0
    · have k : decide (u = 0) = true := decide_eq_true hu
      obtain ⟨T', r1, r2, eR⟩ := rev_text ns (d + 6) (t2 + 1) B T (by omega) q2 y4 y5 y6 y7
      refine ⟨T', by omega, r2, ?_⟩
      simp only [s_law_5, e6, k, eR, List.length_map, ups_len, downs_len, Int.cast_ofNat_Int, List.take_length, Nat.add_assoc, big, v_ix0, v_ix1, v_ix2, v_ix3, v_il0, v_il1, v_in0, v_in1, v_in2, v_tg2, v_sum_ti, v_sum_li, v_len_ti, v_eq_nil, v_ne_nil, v_eq_sd, v_ne_sd, tx_inj, v_in_li, v_eq_li, v_ne_li, v_eq_bd, v_ne_bd, eq_self, and_self, or_self, Int.reduceAdd, Int.reduceSub, Int.reduceMul, Int.reduceNeg, Int.reduceLT, Int.reduceLE, Int.reduceEq, Int.reduceNe, Nat.reduceLeDiff, Nat.reduceLT, decide_true, decide_false, Bool.not_not, ite_true, ite_false, Bool.true_eq_false, Bool.false_eq_true, Bool.and_true, Bool.true_and, Bool.and_false, Bool.false_and, Bool.or_true, Bool.true_or, Bool.or_false, Bool.false_or, Bool.false_eq_true, if_false, if_true, reduceIte, List.getElem?_cons_zero, List.getElem?_cons_succ, List.set_cons_zero, List.set_cons_succ, List.map_cons, List.map_nil, List.length_cons, List.length_nil, List.cons_append, List.nil_append, List.replicate_succ, List.replicate_zero, Nat.reduceAdd, Nat.reduceSub, Bool.not_true, Bool.not_false, decide_true, decide_false, Option.map_some, List.take_succ_cons, List.take_zero, v_g0, v_gk, v_s0, v_sk, v_tk, cl_isx, cl_sub, List.append_assoc, List.length_append, evSs, evS, evE, evAs, evFs, evIs, evB, evO, evIf, cl_scr, Out.bind_ok, Out.bind_exc, Out.bind_bad, R.wipe, v_onP_p, v_onP_n, v_onP_o, v_onP_f, v_int, v_bl, v_str, v_data, v_seq, v_obj, v_ix, v_of, v_retT, v_retT_b, v_retT_s, v_retT_l, v_retB, v_retB_b, v_add, v_sub, v_mul, v_mod, v_fdiv, v_pow, v_addl, v_addt, v_adds, v_mull, v_mult, v_lt, v_le, v_gt, v_ge, v_eq, v_ne, v_eqs, v_nes, v_isN, v_isNN, v_ltt, v_binR, v_frz_p, v_frz_n, v_pop_p, v_pop_n, v_sto_p, v_sto_n, v_sto_t, v_sto_o, v_lst, v_tup, v_lenR, v_len_s, v_bi_p, v_bi_n, v_bi_o, v_len_l, v_len_t, v_sum_l, v_sum_t, v_all, v_any, v_min_t, v_max_t, v_min_l, v_max_l, v_list_l, v_list_t, v_tuple_l, v_tuple_t, v_idx_t, v_idx_l, v_idx_n, v_idx_o, v_idx_s, v_tg1, v_app, v_seti, v_thn_n, v_thn_r, v_okB, v_noexc, v_arg_p, v_arg_n, v_arg_o, v_arg_s]
    · have k : decide (u = 0) = false := decide_eq_false hu
      refine ⟨T, by omega, q2, ?_⟩
      simp only [s_law_5, e6, k, List.length_map, ups_len, downs_len, Int.cast_ofNat_Int, List.take_length, Nat.add_assoc, big, v_ix0, v_ix1, v_ix2, v_ix3, v_il0, v_il1, v_in0, v_in1, v_in2, v_tg2, v_sum_ti, v_sum_li, v_len_ti, v_eq_nil, v_ne_nil, v_eq_sd, v_ne_sd, tx_inj, v_in_li, v_eq_li, v_ne_li, v_eq_bd, v_ne_bd, eq_self, and_self, or_self, Int.reduceAdd, Int.reduceSub, Int.reduceMul, Int.reduceNeg, Int.reduceLT, Int.reduceLE, Int.reduceEq, Int.reduceNe, Nat.reduceLeDiff, Nat.reduceLT, decide_true, decide_false, Bool.not_not, ite_true, ite_false, Bool.true_eq_false, Bool.false_eq_true, Bool.and_true, Bool.true_and, Bool.and_false, Bool.false_and, Bool.or_true, Bool.true_or, Bool.or_false, Bool.false_or, Bool.false_eq_true, if_false, if_true, reduceIte, List.getElem?_cons_zero, List.getElem?_cons_succ, List.set_cons_zero, List.set_cons_succ, List.map_cons, List.map_nil, List.length_cons, List.length_nil, List.cons_append, List.nil_append, List.replicate_succ, List.replicate_zero, Nat.reduceAdd, Nat.reduceSub, Bool.not_true, Bool.not_false, decide_true, decide_false, Option.map_some, List.take_succ_cons, List.take_zero, v_g0, v_gk, v_s0, v_sk, v_tk, cl_isx, cl_sub, List.append_assoc, List.length_append, evSs, evS, evE, evAs, evFs, evIs, evB, evO, evIf, cl_scr, Out.bind_ok, Out.bind_exc, Out.bind_bad, R.wipe, v_onP_p, v_onP_n, v_onP_o, v_onP_f, v_int, v_bl, v_str, v_data, v_seq, v_obj, v_ix, v_of, v_retT, v_retT_b, v_retT_s, v_retT_l, v_retB, v_retB_b, v_add, v_sub, v_mul, v_mod, v_fdiv, v_pow, v_addl, v_addt, v_adds, v_mull, v_mult, v_lt, v_le, v_gt, v_ge, v_eq, v_ne, v_eqs, v_nes, v_isN, v_isNN, v_ltt, v_binR, v_frz_p, v_frz_n, v_pop_p, v_pop_n, v_sto_p, v_sto_n, v_sto_t, v_sto_o, v_lst, v_tup, v_lenR, v_len_s, v_bi_p, v_bi_n, v_bi_o, v_len_l, v_len_t, v_sum_l, v_sum_t, v_all, v_any, v_min_t, v_max_t, v_min_l, v_max_l, v_list_l, v_list_t, v_tuple_l, v_tuple_t, v_idx_t, v_idx_l, v_idx_n, v_idx_o, v_idx_s, v_tg1, v_app, v_seti, v_thn_n, v_thn_r, v_okB, v_noexc, v_arg_p, v_arg_n, v_arg_o, v_arg_s]
  obtain ⟨T', r1, r2, S5⟩ := S5
  rw [fn_ret (f := f_law) (ρ := [some .scr, none, none, none, none, none, none, none, none, none]) rfl rfl ((ss_next S0).trans ((ss_next S1).trans ((ss_next S2).trans ((ss_next S3).trans ((ss_next S4).trans ((ss_next S5).trans (law_end ns d (t2 + 1) hB T' r1 r2 y4 y5 y6 y7)))))))]
  rfl

end R
namespace R
open PySem L2
theorem law_true : LawTrue (defs.map (·.fn)) raised asked isas 20 20 := fun ns _ => law_at ns 13
theorem all_mk {P : Program} {w : World} {K : PySem.W.Frag} {h : Heap} {mg : Str → Option Value} {fa : Addr} (X : K.In h) (G : h.Ns mainGlobals mg) (hfa : mg "law" = some (.ref fa))
    {f0 : Addr} {oc0 kV0 dc0 pm0 cd0 ct0 : Value} {od0 an0 : Option Addr} {sl0 : Array (Option Value)}
    {f1 : Addr} {oc1 kV1 dc1 pm1 cd1 ct1 : Value} {od1 an1 : Option Addr} {sl1 : Array (Option Value)}
    {f2 : Addr} {oc2 kV2 dc2 pm2 cd2 ct2 : Value} {od2 an2 : Option Addr} {sl2 : Array (Option Value)}
    {f3 : Addr} {oc3 kV3 dc3 pm3 cd3 ct3 : Value} {od3 an3 : Option Addr} {sl3 : Array (Option Value)}
    {f4 : Addr} {oc4 kV4 dc4 pm4 cd4 ct4 : Value} {od4 an4 : Option Addr} {sl4 : Array (Option Value)}
    {f5 : Addr} {oc5 kV5 dc5 pm5 cd5 ct5 : Value} {od5 an5 : Option Addr} {sl5 : Array (Option Value)}
    {f6 : Addr} {oc6 kV6 dc6 pm6 cd6 ct6 : Value} {od6 an6 : Option Addr} {sl6 : Array (Option Value)}
    {f7 : Addr} {oc7 kV7 dc7 pm7 cd7 ct7 : Value} {od7 an7 : Option Addr} {sl7 : Array (Option Value)}
    {f8 : Addr} {oc8 kV8 dc8 pm8 cd8 ct8 : Value} {od8 an8 : Option Addr} {sl8 : Array (Option Value)}
    {f9 : Addr} {oc9 kV9 dc9 pm9 cd9 ct9 : Value} {od9 an9 : Option Addr} {sl9 : Array (Option Value)}
    {f10 : Addr} {oc10 kV10 dc10 pm10 cd10 ct10 : Value} {od10 an10 : Option Addr} {sl10 : Array (Option Value)}
    {f11 : Addr} {oc11 kV11 dc11 pm11 cd11 ct11 : Value} {od11 an11 : Option Addr} {sl11 : Array (Option Value)}
    {f12 : Addr} {oc12 kV12 dc12 pm12 cd12 ct12 : Value} {od12 an12 : Option Addr} {sl12 : Array (Option Value)}
    {f13 : Addr} {oc13 kV13 dc13 pm13 cd13 ct13 : Value} {od13 an13 : Option Addr} {sl13 : Array (Option Value)}
    {f14 : Addr} {oc14 kV14 dc14 pm14 cd14 ct14 : Value} {od14 an14 : Option Addr} {sl14 : Array (Option Value)}
    {f15 : Addr} {oc15 kV15 dc15 pm15 cd15 ct15 : Value} {od15 an15 : Option Addr} {sl15 : Array (Option Value)}
    {f16 : Addr} {oc16 kV16 dc16 pm16 cd16 ct16 : Value} {od16 an16 : Option Addr} {sl16 : Array (Option Value)}
    {f17 : Addr} {oc17 kV17 dc17 pm17 cd17 ct17 : Value} {od17 an17 : Option Addr} {sl17 : Array (Option Value)}
    {f18 : Addr} {oc18 kV18 dc18 pm18 cd18 ct18 : Value} {od18 an18 : Option Addr} {sl18 : Array (Option Value)}
    {f19 : Addr} {oc19 kV19 dc19 pm19 cd19 ct19 : Value} {od19 an19 : Option Addr} {sl19 : Array (Option Value)}
    {f20 : Addr} {oc20 kV20 dc20 pm20 cd20 ct20 : Value} {od20 an20 : Option Addr} {sl20 : Array (Option Value)}
    {C0 : Addr}
    {C1 : Addr}
    {C2 : Addr}
    {C3 : Addr}
    {C4 : Addr}
    {C5 : Addr}
    {C6 : Addr}
    {C7 : Addr}
    {u0 : Nat}
    {u1 : Nat}
    {u2 : Nat}
    {u3 : Nat}
    {u4 : Nat}
    (a0 : PySem.W.nsIn K mainGlobals "is_side" = some (some (.ref f0)))
    (l0 : K.lookup f0 = some ⟨oc0, od0, .func (PySem.W.fnOf "is_side" "is_side" (defArgs (top 15)) (defBody (top 15)) (defScope (top 15)) .none kV0 dc0 pm0 an0 cd0 ct0), sl0⟩)
    (c0 : PySem.W.codeIn K cd0 "is_side" = true)
    (k0 : PySem.W.keepIn K (.ref f0) = true)
    (a1 : PySem.W.nsIn K mainGlobals "look_board" = some (some (.ref f1)))
    (l1 : K.lookup f1 = some ⟨oc1, od1, .func (PySem.W.fnOf "look_board" "look_board" (defArgs (top 16)) (defBody (top 16)) (defScope (top 16)) .none kV1 dc1 pm1 an1 cd1 ct1), sl1⟩)
    (c1 : PySem.W.codeIn K cd1 "look_board" = true)
    (k1 : PySem.W.keepIn K (.ref f1) = true)
    (a2 : PySem.W.nsIn K mainGlobals "place_text" = some (some (.ref f2)))
    (l2 : K.lookup f2 = some ⟨oc2, od2, .func (PySem.W.fnOf "place_text" "place_text" (defArgs (top 17)) (defBody (top 17)) (defScope (top 17)) .none kV2 dc2 pm2 an2 cd2 ct2), sl2⟩)
    (c2 : PySem.W.codeIn K cd2 "place_text" = true)
    (k2 : PySem.W.keepIn K (.ref f2) = true)
    (a3 : PySem.W.nsIn K mainGlobals "side_text" = some (some (.ref f3)))
    (l3 : K.lookup f3 = some ⟨oc3, od3, .func (PySem.W.fnOf "side_text" "side_text" (defArgs (top 18)) (defBody (top 18)) (defScope (top 18)) .none kV3 dc3 pm3 an3 cd3 ct3), sl3⟩)
    (c3 : PySem.W.codeIn K cd3 "side_text" = true)
    (k3 : PySem.W.keepIn K (.ref f3) = true)
    (a4 : PySem.W.nsIn K mainGlobals "board_text" = some (some (.ref f4)))
    (l4 : K.lookup f4 = some ⟨oc4, od4, .func (PySem.W.fnOf "board_text" "board_text" (defArgs (top 19)) (defBody (top 19)) (defScope (top 19)) .none kV4 dc4 pm4 an4 cd4 ct4), sl4⟩)
    (c4 : PySem.W.codeIn K cd4 "board_text" = true)
    (k4 : PySem.W.keepIn K (.ref f4) = true)
    (a5 : PySem.W.nsIn K mainGlobals "number_in" = some (some (.ref f5)))
    (l5 : K.lookup f5 = some ⟨oc5, od5, .func (PySem.W.fnOf "number_in" "number_in" (defArgs (top 20)) (defBody (top 20)) (defScope (top 20)) .none kV5 dc5 pm5 an5 cd5 ct5), sl5⟩)
    (c5 : PySem.W.codeIn K cd5 "number_in" = true)
    (k5 : PySem.W.keepIn K (.ref f5) = true)
    (a6 : PySem.W.nsIn K mainGlobals "read_place" = some (some (.ref f6)))
    (l6 : K.lookup f6 = some ⟨oc6, od6, .func (PySem.W.fnOf "read_place" "read_place" (defArgs (top 21)) (defBody (top 21)) (defScope (top 21)) .none kV6 dc6 pm6 an6 cd6 ct6), sl6⟩)
    (c6 : PySem.W.codeIn K cd6 "read_place" = true)
    (k6 : PySem.W.keepIn K (.ref f6) = true)
    (a7 : PySem.W.nsIn K mainGlobals "read_side" = some (some (.ref f7)))
    (l7 : K.lookup f7 = some ⟨oc7, od7, .func (PySem.W.fnOf "read_side" "read_side" (defArgs (top 22)) (defBody (top 22)) (defScope (top 22)) .none kV7 dc7 pm7 an7 cd7 ct7), sl7⟩)
    (c7 : PySem.W.codeIn K cd7 "read_side" = true)
    (k7 : PySem.W.keepIn K (.ref f7) = true)
    (a8 : PySem.W.nsIn K mainGlobals "read_board" = some (some (.ref f8)))
    (l8 : K.lookup f8 = some ⟨oc8, od8, .func (PySem.W.fnOf "read_board" "read_board" (defArgs (top 23)) (defBody (top 23)) (defScope (top 23)) .none kV8 dc8 pm8 an8 cd8 ct8), sl8⟩)
    (c8 : PySem.W.codeIn K cd8 "read_board" = true)
    (k8 : PySem.W.keepIn K (.ref f8) = true)
    (a9 : PySem.W.nsIn K mainGlobals "_law_cell" = some (some (.ref f9)))
    (l9 : K.lookup f9 = some ⟨oc9, od9, .func (PySem.W.fnOf "_law_cell" "_law_cell" (defArgs (top 25)) (defBody (top 25)) (defScope (top 25)) .none kV9 dc9 pm9 an9 cd9 ct9), sl9⟩)
    (c9 : PySem.W.codeIn K cd9 "_law_cell" = true)
    (k9 : PySem.W.keepIn K (.ref f9) = true)
    (a10 : PySem.W.nsIn K mainGlobals "_law_mix" = some (some (.ref f10)))
    (l10 : K.lookup f10 = some ⟨oc10, od10, .func (PySem.W.fnOf "_law_mix" "_law_mix" (defArgs (top 26)) (defBody (top 26)) (defScope (top 26)) .none kV10 dc10 pm10 an10 cd10 ct10), sl10⟩)
    (c10 : PySem.W.codeIn K cd10 "_law_mix" = true)
    (k10 : PySem.W.keepIn K (.ref f10) = true)
    (a11 : PySem.W.nsIn K mainGlobals "_law_draw" = some (some (.ref f11)))
    (l11 : K.lookup f11 = some ⟨oc11, od11, .func (PySem.W.fnOf "_law_draw" "_law_draw" (defArgs (top 27)) (defBody (top 27)) (defScope (top 27)) .none kV11 dc11 pm11 an11 cd11 ct11), sl11⟩)
    (c11 : PySem.W.codeIn K cd11 "_law_draw" = true)
    (k11 : PySem.W.keepIn K (.ref f11) = true)
    (a12 : PySem.W.nsIn K mainGlobals "_law_pick" = some (some (.ref f12)))
    (l12 : K.lookup f12 = some ⟨oc12, od12, .func (PySem.W.fnOf "_law_pick" "_law_pick" (defArgs (top 28)) (defBody (top 28)) (defScope (top 28)) .none kV12 dc12 pm12 an12 cd12 ct12), sl12⟩)
    (c12 : PySem.W.codeIn K cd12 "_law_pick" = true)
    (k12 : PySem.W.keepIn K (.ref f12) = true)
    (a13 : PySem.W.nsIn K mainGlobals "_law_refusal" = some (some (.ref f13)))
    (l13 : K.lookup f13 = some ⟨oc13, od13, .func (PySem.W.fnOf "_law_refusal" "_law_refusal" (defArgs (top 29)) (defBody (top 29)) (defScope (top 29)) .none kV13 dc13 pm13 an13 cd13 ct13), sl13⟩)
    (c13 : PySem.W.codeIn K cd13 "_law_refusal" = true)
    (k13 : PySem.W.keepIn K (.ref f13) = true)
    (a14 : PySem.W.nsIn K mainGlobals "_law_place" = some (some (.ref f14)))
    (l14 : K.lookup f14 = some ⟨oc14, od14, .func (PySem.W.fnOf "_law_place" "_law_place" (defArgs (top 30)) (defBody (top 30)) (defScope (top 30)) .none kV14 dc14 pm14 an14 cd14 ct14), sl14⟩)
    (c14 : PySem.W.codeIn K cd14 "_law_place" = true)
    (k14 : PySem.W.keepIn K (.ref f14) = true)
    (a15 : PySem.W.nsIn K mainGlobals "_law_board" = some (some (.ref f15)))
    (l15 : K.lookup f15 = some ⟨oc15, od15, .func (PySem.W.fnOf "_law_board" "_law_board" (defArgs (top 31)) (defBody (top 31)) (defScope (top 31)) .none kV15 dc15 pm15 an15 cd15 ct15), sl15⟩)
    (c15 : PySem.W.codeIn K cd15 "_law_board" = true)
    (k15 : PySem.W.keepIn K (.ref f15) = true)
    (a16 : PySem.W.nsIn K mainGlobals "_law_is_board" = some (some (.ref f16)))
    (l16 : K.lookup f16 = some ⟨oc16, od16, .func (PySem.W.fnOf "_law_is_board" "_law_is_board" (defArgs (top 32)) (defBody (top 32)) (defScope (top 32)) .none kV16 dc16 pm16 an16 cd16 ct16), sl16⟩)
    (c16 : PySem.W.codeIn K cd16 "_law_is_board" = true)
    (k16 : PySem.W.keepIn K (.ref f16) = true)
    (a17 : PySem.W.nsIn K mainGlobals "_law_text" = some (some (.ref f17)))
    (l17 : K.lookup f17 = some ⟨oc17, od17, .func (PySem.W.fnOf "_law_text" "_law_text" (defArgs (top 33)) (defBody (top 33)) (defScope (top 33)) .none kV17 dc17 pm17 an17 cd17 ct17), sl17⟩)
    (c17 : PySem.W.codeIn K cd17 "_law_text" = true)
    (k17 : PySem.W.keepIn K (.ref f17) = true)
    (a18 : PySem.W.nsIn K mainGlobals "_law_board_of" = some (some (.ref f18)))
    (l18 : K.lookup f18 = some ⟨oc18, od18, .func (PySem.W.fnOf "_law_board_of" "_law_board_of" (defArgs (top 34)) (defBody (top 34)) (defScope (top 34)) .none kV18 dc18 pm18 an18 cd18 ct18), sl18⟩)
    (c18 : PySem.W.codeIn K cd18 "_law_board_of" = true)
    (k18 : PySem.W.keepIn K (.ref f18) = true)
    (a19 : PySem.W.nsIn K mainGlobals "_law_told" = some (some (.ref f19)))
    (l19 : K.lookup f19 = some ⟨oc19, od19, .func (PySem.W.fnOf "_law_told" "_law_told" (defArgs (top 35)) (defBody (top 35)) (defScope (top 35)) .none kV19 dc19 pm19 an19 cd19 ct19), sl19⟩)
    (c19 : PySem.W.codeIn K cd19 "_law_told" = true)
    (k19 : PySem.W.keepIn K (.ref f19) = true)
    (a20 : PySem.W.nsIn K mainGlobals "law" = some (some (.ref f20)))
    (l20 : K.lookup f20 = some ⟨oc20, od20, .func (PySem.W.fnOf "law" "law" (defArgs (top 36)) (defBody (top 36)) (defScope (top 36)) .none kV20 dc20 pm20 an20 cd20 ct20), sl20⟩)
    (c20 : PySem.W.codeIn K cd20 "law" = true)
    (k20 : PySem.W.keepIn K (.ref f20) = true)
    (e0 : PySem.W.nsIn K mainGlobals "BadBoard" = some (some (.ref C0)))
    (e1 : PySem.W.nsIn K mainGlobals "BadPlay" = some (some (.ref C1)))
    (e2 : PySem.W.nsIn K mainGlobals "BadRoll" = some (some (.ref C2)))
    (e3 : PySem.W.nsIn K mainGlobals "BadStep" = some (some (.ref C3)))
    (e4 : PySem.W.nsIn K mainGlobals "BadText" = some (some (.ref C4)))
    (e5 : PySem.W.nsIn K mainGlobals "Over" = some (some (.ref C5)))
    (e6 : PySem.W.nsIn K mainGlobals "RaceError" = some (some (.ref C6)))
    (e7 : PySem.W.nsIn K mainGlobals "TooFar" = some (some (.ref C7)))
    (ek0 : PySem.W.keepIn K (.ref C0) = true)
    (ex0 : PySem.W.excIn K C0 [.type "ValueError", .type "Exception", .type "BaseException", .type "object"] "ValueError.__new__" = true)
    (es0 : PySem.W.subIn K (.ref C0) (.type "BaseException") = some true)
    (et0 : PySem.W.typeIn K (.ref C0) = some (.type "type"))
    (ed0 : PySem.W.hasDictIn K C0 = true)
    (ek4 : PySem.W.keepIn K (.ref C4) = true)
    (ex4 : PySem.W.excIn K C4 [.type "ValueError", .type "Exception", .type "BaseException", .type "object"] "ValueError.__new__" = true)
    (es4 : PySem.W.subIn K (.ref C4) (.type "BaseException") = some true)
    (et4 : PySem.W.typeIn K (.ref C4) = some (.type "type"))
    (ed4 : PySem.W.hasDictIn K C4 = true)
    (ek6 : PySem.W.keepIn K (.ref C6) = true)
    (ex6 : PySem.W.excIn K C6 [.type "ValueError", .type "Exception", .type "BaseException", .type "object"] "ValueError.__new__" = true)
    (es6 : PySem.W.subIn K (.ref C6) (.type "BaseException") = some true)
    (et6 : PySem.W.typeIn K (.ref C6) = some (.type "type"))
    (ed6 : PySem.W.hasDictIn K C6 = true)
    (eg0 : PySem.W.findIn K (.ref C0) "__getattribute__" = some (some (.builtin "BaseException.__getattribute__")))
    (eh0 : PySem.W.findIn K (.ref C0) "__getattr__" = some none)
    (ec0 : PySem.W.findIn K (.ref C0) "__class__" = some (some (.builtin "object.__class__")))
    (em0 : PySem.W.mroIn K C0 (.type "object") = some true)
    (eg4 : PySem.W.findIn K (.ref C4) "__getattribute__" = some (some (.builtin "BaseException.__getattribute__")))
    (eh4 : PySem.W.findIn K (.ref C4) "__getattr__" = some none)
    (ec4 : PySem.W.findIn K (.ref C4) "__class__" = some (some (.builtin "object.__class__")))
    (em4 : PySem.W.mroIn K C4 (.type "object") = some true)
    (sg : PySem.W.specialIn K (.builtin "object.__class__") "__get__" = some (some (.builtin "getset_descriptor.__get__")))
    (st : PySem.W.takesIn K (.builtin "object.__class__") = some true)
    (q0_0 : PySem.W.subIn K (.ref C0) (.ref C0) = some true)
    (q0_6 : PySem.W.subIn K (.ref C0) (.ref C6) = some true)
    (p0_0 : PySem.W.kitOne K (.ref C0) (.ref C0) = some true)
    (p0_1 : PySem.W.kitOne K (.ref C0) (.ref C1) = some false)
    (p0_2 : PySem.W.kitOne K (.ref C0) (.ref C2) = some false)
    (p0_3 : PySem.W.kitOne K (.ref C0) (.ref C3) = some false)
    (p0_4 : PySem.W.kitOne K (.ref C0) (.ref C4) = some false)
    (p0_5 : PySem.W.kitOne K (.ref C0) (.ref C5) = some false)
    (p0_7 : PySem.W.kitOne K (.ref C0) (.ref C7) = some false)
    (p0_v : PySem.W.kitOne K (.ref C0) (.type "ValueError") = some true)
    (q4_0 : PySem.W.subIn K (.ref C4) (.ref C0) = some false)
    (q4_6 : PySem.W.subIn K (.ref C4) (.ref C6) = some true)
    (p4_0 : PySem.W.kitOne K (.ref C4) (.ref C0) = some false)
    (p4_1 : PySem.W.kitOne K (.ref C4) (.ref C1) = some false)
    (p4_2 : PySem.W.kitOne K (.ref C4) (.ref C2) = some false)
    (p4_3 : PySem.W.kitOne K (.ref C4) (.ref C3) = some false)
    (p4_4 : PySem.W.kitOne K (.ref C4) (.ref C4) = some true)
    (p4_5 : PySem.W.kitOne K (.ref C4) (.ref C5) = some false)
    (p4_7 : PySem.W.kitOne K (.ref C4) (.ref C7) = some false)
    (p4_v : PySem.W.kitOne K (.ref C4) (.type "ValueError") = some true)
    (b0 : PySem.W.nsIn K mainGlobals "BAR" = some (some (.int 25 u0)))
    (b1 : PySem.W.nsIn K mainGlobals "OFF" = some (some (.int 0 u1)))
    (b2 : PySem.W.nsIn K mainGlobals "POINTS" = some (some (.int 24 u2)))
    (b3 : PySem.W.nsIn K mainGlobals "MOST_MEN" = some (some (.int 15 u3)))
    (b4 : PySem.W.nsIn K mainGlobals "FIGURES" = some (some (.str "0123456789" u4)))
    (z0 : PySem.W.nsIn K mainGlobals "len" = some none)
    (z1 : PySem.W.nsIn K mainGlobals "sum" = some none)
    (z2 : PySem.W.nsIn K mainGlobals "max" = some none)
    (z3 : PySem.W.nsIn K mainGlobals "min" = some none)
    (z4 : PySem.W.nsIn K mainGlobals "all" = some none)
    (z5 : PySem.W.nsIn K mainGlobals "any" = some none)
    (z6 : PySem.W.nsIn K mainGlobals "abs" = some none)
    (z7 : PySem.W.nsIn K mainGlobals "list" = some none)
    (z8 : PySem.W.nsIn K mainGlobals "tuple" = some none)
    (z9 : PySem.W.nsIn K mainGlobals "str" = some none)
    (z10 : PySem.W.nsIn K mainGlobals "int" = some none)
    (z11 : PySem.W.nsIn K mainGlobals "bool" = some none)
    (z12 : PySem.W.nsIn K mainGlobals "range" = some none)
    (z13 : PySem.W.nsIn K mainGlobals "sorted" = some none)
    (z14 : PySem.W.nsIn K mainGlobals "set" = some none)
    (z15 : PySem.W.nsIn K mainGlobals "isinstance" = some none)
    (zv : PySem.W.nsIn K mainGlobals "ValueError" = some none)
    : ∃ fd : FuncData, (∀ (s : Shared) (u : Value), BindsTo s fd ⟨[u], []⟩ [("_law_script", u)]) ∧ ∀ base : Heap, K.In base → base.Ns mainGlobals mg → FnOk P w K mg base (L2.CX P w) 20 fa fd ["_law_script"] (spLaw K) := by
  cases hfa.symm.trans (PySem.W.mg_of X G a20)
  have hgl : ∀ p ∈ nm.gl, GlAt mg p := all_cons (gl_int (PySem.W.mg_of X G b0)) (all_cons (gl_int (PySem.W.mg_of X G b1)) (all_cons (gl_int (PySem.W.mg_of X G b2)) (all_cons (gl_int (PySem.W.mg_of X G b3)) (all_cons (gl_str (PySem.W.mg_of X G b4)) (all_nil)))))
  have hbn : ∀ x ∈ bnames, mg x = none := all_cons (PySem.W.mg_none_of X G z0) (all_cons (PySem.W.mg_none_of X G z1) (all_cons (PySem.W.mg_none_of X G z2) (all_cons (PySem.W.mg_none_of X G z3) (all_cons (PySem.W.mg_none_of X G z4) (all_cons (PySem.W.mg_none_of X G z5) (all_cons (PySem.W.mg_none_of X G z6) (all_cons (PySem.W.mg_none_of X G z7) (all_cons (PySem.W.mg_none_of X G z8) (all_cons (PySem.W.mg_none_of X G z9) (all_cons (PySem.W.mg_none_of X G z10) (all_cons (PySem.W.mg_none_of X G z11) (all_cons (PySem.W.mg_none_of X G z12) (all_cons (PySem.W.mg_none_of X G z13) (all_cons (PySem.W.mg_none_of X G z14) (all_cons (PySem.W.mg_none_of X G z15) (all_nil))))))))))))))))
  have hex : ∀ x ∈ nm.exs, ErrAt K mg x := all_cons (⟨_, PySem.W.mg_of X G e0, ek0, ex0, es0, et0⟩) (all_cons (⟨_, PySem.W.mg_of X G e4, ek4, ex4, es4, et4⟩) (all_cons (⟨_, PySem.W.mg_of X G e6, ek6, ex6, es6, et6⟩) (all_nil)))
  have E0 : L2.ExcC K C0 := ⟨eg0, eh0, es0, ed0, ec0, sg, st, em0⟩
  have E4 : L2.ExcC K C4 := ⟨eg4, eh4, es4, ed4, ec4, sg, st, em4⟩
  have hsub : ∀ n ∈ raised, ∀ c ∈ asked, ExmAt K mg n c := all_cons (all_cons (exm_mk (PySem.W.mg_of X G e0) (PySem.W.mg_of X G e0) es0 ed0 et0 q0_0 (by decide +kernel)) (all_cons (exm_mk (PySem.W.mg_of X G e0) (PySem.W.mg_of X G e6) es6 ed6 et6 q0_6 (by decide +kernel)) (all_nil))) (all_cons (all_cons (exm_mk (PySem.W.mg_of X G e4) (PySem.W.mg_of X G e0) es0 ed0 et0 q4_0 (by decide +kernel)) (all_cons (exm_mk (PySem.W.mg_of X G e4) (PySem.W.mg_of X G e6) es6 ed6 et6 q4_6 (by decide +kernel)) (all_nil))) (all_nil))
  have hisx : ∀ n ∈ raised, ∀ c ∈ isas, KitAt K mg n c := all_cons (all_cons (kit_mk (PySem.W.mg_of X G e0) E0 (PySem.W.mg_of X G e0) p0_0 (by decide +kernel)) (all_cons (kit_mk (PySem.W.mg_of X G e0) E0 (PySem.W.mg_of X G e1) p0_1 (by decide +kernel)) (all_cons (kit_mk (PySem.W.mg_of X G e0) E0 (PySem.W.mg_of X G e2) p0_2 (by decide +kernel)) (all_cons (kit_mk (PySem.W.mg_of X G e0) E0 (PySem.W.mg_of X G e3) p0_3 (by decide +kernel)) (all_cons (kit_mk (PySem.W.mg_of X G e0) E0 (PySem.W.mg_of X G e4) p0_4 (by decide +kernel)) (all_cons (kit_mk (PySem.W.mg_of X G e0) E0 (PySem.W.mg_of X G e5) p0_5 (by decide +kernel)) (all_cons (kit_mk (PySem.W.mg_of X G e0) E0 (PySem.W.mg_of X G e7) p0_7 (by decide +kernel)) (all_cons (kit_v (PySem.W.mg_of X G e0) E0 (PySem.W.mg_none_of X G zv) p0_v (by decide +kernel)) (all_nil))))))))) (all_cons (all_cons (kit_mk (PySem.W.mg_of X G e4) E4 (PySem.W.mg_of X G e0) p4_0 (by decide +kernel)) (all_cons (kit_mk (PySem.W.mg_of X G e4) E4 (PySem.W.mg_of X G e1) p4_1 (by decide +kernel)) (all_cons (kit_mk (PySem.W.mg_of X G e4) E4 (PySem.W.mg_of X G e2) p4_2 (by decide +kernel)) (all_cons (kit_mk (PySem.W.mg_of X G e4) E4 (PySem.W.mg_of X G e3) p4_3 (by decide +kernel)) (all_cons (kit_mk (PySem.W.mg_of X G e4) E4 (PySem.W.mg_of X G e4) p4_4 (by decide +kernel)) (all_cons (kit_mk (PySem.W.mg_of X G e4) E4 (PySem.W.mg_of X G e5) p4_5 (by decide +kernel)) (all_cons (kit_mk (PySem.W.mg_of X G e4) E4 (PySem.W.mg_of X G e7) p4_7 (by decide +kernel)) (all_cons (kit_v (PySem.W.mg_of X G e4) E4 (PySem.W.mg_none_of X G zv) p4_v (by decide +kernel)) (all_nil))))))))) (all_nil))
  have D0 : DefAt K mg d_is_side := at_mk (d := d_is_side) X G a0 l0 c0 k0 fun _ _ _ _ _ _ us hl => match us, hl with | [_], _ => rfl
  have D1 : DefAt K mg d_look_board := at_mk (d := d_look_board) X G a1 l1 c1 k1 fun _ _ _ _ _ _ us hl => match us, hl with | [_], _ => rfl
  have D2 : DefAt K mg d_place_text := at_mk (d := d_place_text) X G a2 l2 c2 k2 fun _ _ _ _ _ _ us hl => match us, hl with | [_], _ => rfl
  have D3 : DefAt K mg d_side_text := at_mk (d := d_side_text) X G a3 l3 c3 k3 fun _ _ _ _ _ _ us hl => match us, hl with | [_], _ => rfl
  have D4 : DefAt K mg d_board_text := at_mk (d := d_board_text) X G a4 l4 c4 k4 fun _ _ _ _ _ _ us hl => match us, hl with | [_], _ => rfl
  have D5 : DefAt K mg d_number_in := at_mk (d := d_number_in) X G a5 l5 c5 k5 fun _ _ _ _ _ _ us hl => match us, hl with | [_, _], _ => rfl
  have D6 : DefAt K mg d_read_place := at_mk (d := d_read_place) X G a6 l6 c6 k6 fun _ _ _ _ _ _ us hl => match us, hl with | [_], _ => rfl
  have D7 : DefAt K mg d_read_side := at_mk (d := d_read_side) X G a7 l7 c7 k7 fun _ _ _ _ _ _ us hl => match us, hl with | [_], _ => rfl
  have D8 : DefAt K mg d_read_board := at_mk (d := d_read_board) X G a8 l8 c8 k8 fun _ _ _ _ _ _ us hl => match us, hl with | [_], _ => rfl
  have D9 : DefAt K mg d__law_cell := at_mk (d := d__law_cell) X G a9 l9 c9 k9 fun _ _ _ _ _ _ us hl => match us, hl with | [_, _], _ => rfl
  have D10 : DefAt K mg d__law_mix := at_mk (d := d__law_mix) X G a10 l10 c10 k10 fun _ _ _ _ _ _ us hl => match us, hl with | [_, _], _ => rfl
  have D11 : DefAt K mg d__law_draw := at_mk (d := d__law_draw) X G a11 l11 c11 k11 fun _ _ _ _ _ _ us hl => match us, hl with | [_, _, _], _ => rfl
  have D12 : DefAt K mg d__law_pick := at_mk (d := d__law_pick) X G a12 l12 c12 k12 fun _ _ _ _ _ _ us hl => match us, hl with | [_, _, _], _ => rfl
  have D13 : DefAt K mg d__law_refusal := at_mk (d := d__law_refusal) X G a13 l13 c13 k13 fun _ _ _ _ _ _ us hl => match us, hl with | [_], _ => rfl
  have D14 : DefAt K mg d__law_place := at_mk (d := d__law_place) X G a14 l14 c14 k14 fun _ _ _ _ _ _ us hl => match us, hl with | [_, _], _ => rfl
  have D15 : DefAt K mg d__law_board := at_mk (d := d__law_board) X G a15 l15 c15 k15 fun _ _ _ _ _ _ us hl => match us, hl with | [_, _, _], _ => rfl
  have D16 : DefAt K mg d__law_is_board := at_mk (d := d__law_is_board) X G a16 l16 c16 k16 fun _ _ _ _ _ _ us hl => match us, hl with | [_], _ => rfl
  have D17 : DefAt K mg d__law_text := at_mk (d := d__law_text) X G a17 l17 c17 k17 fun _ _ _ _ _ _ us hl => match us, hl with | [_], _ => rfl
  have D18 : DefAt K mg d__law_board_of := at_mk (d := d__law_board_of) X G a18 l18 c18 k18 fun _ _ _ _ _ _ us hl => match us, hl with | [_], _ => rfl
  have D19 : DefAt K mg d__law_told := at_mk (d := d__law_told) X G a19 l19 c19 k19 fun _ _ _ _ _ _ us hl => match us, hl with | [_, _], _ => rfl
  have D20 : DefAt K mg d_law := at_mk (d := d_law) X G a20 l20 c20 k20 fun _ _ _ _ _ _ us hl => match us, hl with | [_], _ => rfl
  have hD : ∀ d ∈ defs, DefAt K mg d := all_cons (D0) (all_cons (D1) (all_cons (D2) (all_cons (D3) (all_cons (D4) (all_cons (D5) (all_cons (D6) (all_cons (D7) (all_cons (D8) (all_cons (D9) (all_cons (D10) (all_cons (D11) (all_cons (D12) (all_cons (D13) (all_cons (D14) (all_cons (D15) (all_cons (D16) (all_cons (D17) (all_cons (D18) (all_cons (D19) (all_cons (D20) (all_nil)))))))))))))))))))))
  have hC : ∀ d ∈ defs, defIs nm d = true := all_cons (chk_is_side) (all_cons (chk_look_board) (all_cons (chk_place_text) (all_cons (chk_side_text) (all_cons (chk_board_text) (all_cons (chk_number_in) (all_cons (chk_read_place) (all_cons (chk_read_side) (all_cons (chk_read_board) (all_cons (chk__law_cell) (all_cons (chk__law_mix) (all_cons (chk__law_draw) (all_cons (chk__law_pick) (all_cons (chk__law_refusal) (all_cons (chk__law_place) (all_cons (chk__law_board) (all_cons (chk__law_is_board) (all_cons (chk__law_text) (all_cons (chk__law_board_of) (all_cons (chk__law_told) (all_cons (chk_law) (all_nil)))))))))))))))))))))
  have F := fun_mk (x := "law") (qual := "law") (st := top 36) l20 c20 k20
  exact ⟨PySem.W.fnOf "law" "law" (defArgs (top 36)) (defBody (top 36)) (defScope (top 36)) .none kV20 dc20 pm20 an20 cd20 ct20, fun s v => .of_eq rfl, fun base _ _ => law_fn (ds := defs) (d := d_law) (i := 20) (top_mk hgl hbn hex hsub hisx) hD hC rfl rfl F rfl law_true⟩
end R
open PySem PySem.W PyProof.Rows
set_option maxRecDepth 100000 in
set_option maxHeartbeats 0 in
theorem PySem.Challenge.cw_racedice_k02_whole_board_texts_holds : PySem.Challenge.rw_racedice_k02_whole_board_texts.Holds := by
  w_on; o_law; k_head; (case hw => w_witness2)
  k_fill
  refine R.walk (l := PySem.Challenge.rw_racedice_k02_whole_board_texts) (k := 20) (by decide) rfl rfl (fun w h Y => PySem.W.kIn_of Y) ?F
  case F =>
    intro w mg fa h KX G hmg
    refine' R.all_mk KX G hmg ?a0 ?l0 ?c0 ?k0 ?a1 ?l1 ?c1 ?k1 ?a2 ?l2 ?c2 ?k2 ?a3 ?l3 ?c3 ?k3 ?a4 ?l4 ?c4 ?k4 ?a5 ?l5 ?c5 ?k5 ?a6 ?l6 ?c6 ?k6 ?a7 ?l7 ?c7 ?k7 ?a8 ?l8 ?c8 ?k8 ?a9 ?l9 ?c9 ?k9 ?a10 ?l10 ?c10 ?k10 ?a11 ?l11 ?c11 ?k11 ?a12 ?l12 ?c12 ?k12 ?a13 ?l13 ?c13 ?k13 ?a14 ?l14 ?c14 ?k14 ?a15 ?l15 ?c15 ?k15 ?a16 ?l16 ?c16 ?k16 ?a17 ?l17 ?c17 ?k17 ?a18 ?l18 ?c18 ?k18 ?a19 ?l19 ?c19 ?k19 ?a20 ?l20 ?c20 ?k20 ?e0 ?e1 ?e2 ?e3 ?e4 ?e5 ?e6 ?e7 ?ek0 ?ex0 ?es0 ?et0 ?ed0 ?ek4 ?ex4 ?es4 ?et4 ?ed4 ?ek6 ?ex6 ?es6 ?et6 ?ed6 ?eg0 ?eh0 ?ec0 ?em0 ?eg4 ?eh4 ?ec4 ?em4 ?sg ?st ?q0_0 ?q0_6 ?p0_0 ?p0_1 ?p0_2 ?p0_3 ?p0_4 ?p0_5 ?p0_7 ?p0_v ?q4_0 ?q4_6 ?p4_0 ?p4_1 ?p4_2 ?p4_3 ?p4_4 ?p4_5 ?p4_7 ?p4_v ?b0 ?b1 ?b2 ?b3 ?b4 ?z0 ?z1 ?z2 ?z3 ?z4 ?z5 ?z6 ?z7 ?z8 ?z9 ?z10 ?z11 ?z12 ?z13 ?z14 ?z15 ?zv
    (case a0 => k_is)
    (case l0 => k_is)
    (case c0 => k_is)
    (case k0 => k_is)
    (case a1 => k_is)
    (case l1 => k_is)
    (case c1 => k_is)
    (case k1 => k_is)
    (case a2 => k_is)
    (case l2 => k_is)
    (case c2 => k_is)
    (case k2 => k_is)
    (case a3 => k_is)
    (case l3 => k_is)
    (case c3 => k_is)
    (case k3 => k_is)
    (case a4 => k_is)
    (case l4 => k_is)
    (case c4 => k_is)
    (case k4 => k_is)
    (case a5 => k_is)
    (case l5 => k_is)
    (case c5 => k_is)
    (case k5 => k_is)
    (case a6 => k_is)
    (case l6 => k_is)
    (case c6 => k_is)
    (case k6 => k_is)
    (case a7 => k_is)
    (case l7 => k_is)
    (case c7 => k_is)
    (case k7 => k_is)
    (case a8 => k_is)
    (case l8 => k_is)
    (case c8 => k_is)
    (case k8 => k_is)
    (case a9 => k_is)
    (case l9 => k_is)
    (case c9 => k_is)
    (case k9 => k_is)
    (case a10 => k_is)
    (case l10 => k_is)
    (case c10 => k_is)
    (case k10 => k_is)
    (case a11 => k_is)
    (case l11 => k_is)
    (case c11 => k_is)
    (case k11 => k_is)
    (case a12 => k_is)
    (case l12 => k_is)
    (case c12 => k_is)
    (case k12 => k_is)
    (case a13 => k_is)
    (case l13 => k_is)
    (case c13 => k_is)
    (case k13 => k_is)
    (case a14 => k_is)
    (case l14 => k_is)
    (case c14 => k_is)
    (case k14 => k_is)
    (case a15 => k_is)
    (case l15 => k_is)
    (case c15 => k_is)
    (case k15 => k_is)
    (case a16 => k_is)
    (case l16 => k_is)
    (case c16 => k_is)
    (case k16 => k_is)
    (case a17 => k_is)
    (case l17 => k_is)
    (case c17 => k_is)
    (case k17 => k_is)
    (case a18 => k_is)
    (case l18 => k_is)
    (case c18 => k_is)
    (case k18 => k_is)
    (case a19 => k_is)
    (case l19 => k_is)
    (case c19 => k_is)
    (case k19 => k_is)
    (case a20 => k_is)
    (case l20 => k_is)
    (case c20 => k_is)
    (case k20 => k_is)
    (case e0 => k_is)
    (case e1 => k_is)
    (case e2 => k_is)
    (case e3 => k_is)
    (case e4 => k_is)
    (case e5 => k_is)
    (case e6 => k_is)
    (case e7 => k_is)
    (case ek0 => k_is)
    (case ex0 => k_exc)
    (case es0 => k_is)
    (case et0 => k_is)
    (case ed0 => k_is)
    (case ek4 => k_is)
    (case ex4 => k_exc)
    (case es4 => k_is)
    (case et4 => k_is)
    (case ed4 => k_is)
    (case ek6 => k_is)
    (case ex6 => k_exc)
    (case es6 => k_is)
    (case et6 => k_is)
    (case ed6 => k_is)
    (case eg0 => k_is)
    (case eh0 => k_is)
    (case ec0 => k_is)
    (case em0 => k_is)
    (case eg4 => k_is)
    (case eh4 => k_is)
    (case ec4 => k_is)
    (case em4 => k_is)
    (case sg => k_is)
    (case st => k_is)
    (case q0_0 => k_is)
    (case q0_6 => k_is)
    (case p0_0 => kit_is)
    (case p0_1 => kit_is)
    (case p0_2 => kit_is)
    (case p0_3 => kit_is)
    (case p0_4 => kit_is)
    (case p0_5 => kit_is)
    (case p0_7 => kit_is)
    (case p0_v => kit_is)
    (case q4_0 => k_is)
    (case q4_6 => k_is)
    (case p4_0 => kit_is)
    (case p4_1 => kit_is)
    (case p4_2 => kit_is)
    (case p4_3 => kit_is)
    (case p4_4 => kit_is)
    (case p4_5 => kit_is)
    (case p4_7 => kit_is)
    (case p4_v => kit_is)
    (case b0 => k_is)
    (case b1 => k_is)
    (case b2 => k_is)
    (case b3 => k_is)
    (case b4 => k_is)
    (case z0 => k_is)
    (case z1 => k_is)
    (case z2 => k_is)
    (case z3 => k_is)
    (case z4 => k_is)
    (case z5 => k_is)
    (case z6 => k_is)
    (case z7 => k_is)
    (case z8 => k_is)
    (case z9 => k_is)
    (case z10 => k_is)
    (case z11 => k_is)
    (case z12 => k_is)
    (case z13 => k_is)
    (case z14 => k_is)
    (case z15 => k_is)
    (case zv => k_is)
#print axioms PySem.Challenge.cw_racedice_k02_whole_board_texts_holds
