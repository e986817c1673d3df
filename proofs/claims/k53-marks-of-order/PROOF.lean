import PyProof.Rows.All
import Wide.All
import OpenK.AllK
import Wide.FinOn
import HandS.ForMost
import HandS.Lambda
import HandS.Zip
import HandS.List
import KE.GoesEnum
import PyProof.EnumMake
import PyProof.WalkInts
import HandS.SortInts
import PyProof.TupleOfSeq
import PyProof.Rows.SumAny
import HandS.TupAny
import HandS.TupLe
import HandS.TupMul
import HandS.IsInst
import HandS.Wide
import HandS.Rev
import HandS.Conv
import HandS.Style
import HandS.ForExc
import HandS.Deep
import HandS.SetFor
import HandS.ExcIs
import HandS.ExcField
import HandS.ExcInit
import KE.KExcIs
import HandS.Defaults
import HandS.HeadHook4
import HandS.HeadWalk
import HandS.WordsExc
import KE.KStateDown
import HandS.Head0
import HandS.Head1
import HandS.Head2
import HandS.TupSets
import HandS.CallLocal
import KE.KDflt
import PySem.Challenge.RW_paidornot_k53_whole_marks_of_order
set_option Elab.async false
set_option linter.all false
set_option maxRecDepth 100000
set_option maxHeartbeats 0
set_option exponentiation.threshold 500000
/-! L3A: data by value, slots with owners, a small language and its evaluator. -/
namespace L3
open PySem PySem.Spec PyProof.Rows L2

/-- data by value -/
inductive D where
  | non | bl (b : Bool) | int (i : Int) | str (s : Str)
  | tup (xs : List D) | lst (xs : List D)
  | fls (xs : List D)
  | dct (ks : List Key) (xs : List D)
  | set (xs : List Int)
  | obj (c : Nat) (ns : List Str) (xs : List D)
  | exc (c : Nat) (ns : List Str) (xs : List D)
  | thk (ok : Bool) (d : D)
deriving Inhabited

mutual
/-- as the data of the library's == -/
def toPy : D → Option PyData
  | .non => some .none
  | .bl b => some (.bool b)
  | .int i => some (.int i)
  | .str s => some (.str s)
  | .tup xs => match toPys xs with | some ps => some (.tuple ps) | none => none
  | .lst xs => match toPys xs with | some ps => some (.list ps) | none => none
  | _ => none
def toPys : List D → Option (List PyData)
  | [] => some []
  | x :: xs => match toPy x, toPys xs with | some p, some ps => some (p :: ps) | _, _ => none
end
def eqD (a b : D) : Option Bool := match toPy a, toPy b with
  | some p, some q => if SeqAt.shaped p && SeqAt.shaped q then some (PyData.eqv p q) else none
  | _, _ => none

/-- own: made here; brw: the caller's, lent; brs: lent, and shared since; sh: shared -/
inductive Ow where | sh | own | brw | brs
deriving DecidableEq
def Ow.isOwn : Ow → Bool | .own => true | .brw => true | _ => false
def Ow.isB : Ow → Bool | .brw => true | .brs => true | _ => false
abbrev Cell := Option (Ow × D)
abbrev En := List Cell
structure Ex where
  c : Nat
  ns : List Str
  xs : List D
inductive Rs (α : Type) where
  | ok (a : α) (en : En) | er (x : Ex) (en : En) | bad
@[reducible] def Rs.bind {α β : Type} (r : Rs α) (f : α → En → Rs β) : Rs β := match r with
  | .ok a en => f a en
  | .er x en => .er x en
  | .bad => .bad
/-- an argument: a value, or a slot that is looked at when the thing is done -/
inductive Av where | v (d : D) | p (i : Nat)
inductive CRes where
  | ok (d : D) (own : Bool) (outs : List Cell) | er (x : Ex) (outs : List Cell) | bad

inductive Ty where | int | bool | str | tup | lst | dct | cls (c : Nat)
deriving DecidableEq
inductive Op where
  | add | sub | mul | fdiv | mod | pow | shl | shr | band | bor | bxor | neg
  | eq | ne | lt | le | gt | ge | isN | notN | inn | nin
  | idx | tup | lst
  | len | abs | int | sum | sum2 | min | max | min2 | max2 | any | all | srt | tupOf | lstOf | rngL
  | isi (ts : List Ty) | fld (f : Str) | count | index | str
  | dnew | dget2 | setOf | lenSet | glb (d : D) | rep
  | isx (cs : List Nat) | fldx (f : Str) | revs | isb | nsb | dsp1 (k : Key) | srtS
inductive Mt where | app | ext | pop | popAt | seti | clear
inductive ItK where | seq | rng1 | rng2 | rng3 | zip | enm | rev
inductive Tg where | nm (i : Nat) | tp (is : List Nat) | tpt (i : Nat) (is : List Nat)

mutual
inductive E where
  | cst (d : D) | var (i : Nat) | mv (i : Nat) | pk (i : Nat)
  | op (o : Op) (as : Es)
  | sl0 (a : E) | slA (a l : E) | slB (a h : E) | slC (a l h : E)
  | and (a b : E) | or (a b : E) | ite (c a b : E) | nt (a : E)
  | chn (o1 o2 : Op) (a b c : E)
  | call (f : Nat) (as : Es)
  | mk (c f : Nat) (as : Es)
  | lc (vs : List Nat) (tg : Tg) (k : ItK) (as : Es) (c : E) (e : E)
  | mt (m : Mt) (i : Nat) (as : Es)
  | mth (o : Op) (x a : E)
  | lam (f : Nat) (e : E)
  | cl (i : Nat) (fs : List Nat) (as : Es)
  | lcp (vs : List Nat) (tg : Tg) (i : Nat) (c : E) (e : E)
inductive Es where
  | nil | cons (e : E) (es : Es)
end
mutual
inductive S where
  | asg (tg : Tg) (e : E)
  | par (is : List Nat) (as : Es)
  | ex (e : E)
  | seti (i : Nat) (v ix : E)
  | setf (f : Str) (i : Nat) (v : E)
  | ife (c : E) (a b : Ss)
  | whl (c : E) (b : Ss)
  | fr (tg : Tg) (k : ItK) (as : Es) (b : Ss)
  | ret (e : E) | pass | brk | cnt
  | rse (c : Nat) (ns : List Str) (as : Es)
  | tryw (ci ei : Nat) (cs : List Nat) (b : Ss)
  | frp (tg : Tg) (i : Nat) (b : Ss)
inductive Ss where
  | nil | cons (s : S) (ss : Ss)
end
def esL : List E → Es | [] => .nil | e :: es => .cons e (esL es)
def ssL : List S → Ss | [] => .nil | s :: ss => .cons s (ssL ss)
@[reducible] def E.o0 (o : Op) : E := .op o .nil
@[reducible] def E.o1 (o : Op) (a : E) : E := .op o (.cons a .nil)
@[reducible] def E.o2 (o : Op) (a b : E) : E := .op o (.cons a (.cons b .nil))
@[reducible] def E.o3 (o : Op) (a b c : E) : E := .op o (.cons a (.cons b (.cons c .nil)))

/-! ### values -/
def cut {α : Type} (xs : List α) (lo hi : Option Int) : List α := (xs.drop (HT.sIx xs.length 0 lo)).take (HT.sIx xs.length xs.length hi - HT.sIx xs.length 0 lo)
def fit (n : Nat) : Bool := decide (n ≤ sizeLine)
instance (i j : Int) : Decidable (CMul i j) := inferInstanceAs (Decidable ((-(2 ^ 64) < i ∧ i < 2 ^ 64) ∨ (-(2 ^ 64) < j ∧ j < 2 ^ 64)))
instance (i j : Int) : Decidable (CDiv i j) := inferInstanceAs (Decidable (0 < j ∧ j < 1073741824))
instance (i j : Int) : Decidable (CPow i j) := inferInstanceAs (Decidable (0 ≤ j ∧ j ≤ 1000000 ∧ i.natAbs < 2 ^ 64))
def mulOk (i j : Int) : Bool := decide (CMul i j) || decide (i.natAbs.log2 + j.natAbs.log2 < 1000000)
def divOk (i j : Int) : Bool := decide (CDiv i j) || decide (0 < j ∧ j.natAbs.log2 < 9000)
def ltI : D → D → Option Bool
  | .int i, .int j => some (decide (i < j))
  | _, _ => none
def ltL (f : D → D → Option Bool) : List D → List D → Option Bool
  | [], ys => some (!ys.isEmpty)
  | _ :: _, [] => some false
  | x :: xs, y :: ys => (match eqD x y, ltL f xs ys with
    | some true, some r => some r
    | some false, some _ => f x y
    | _, _ => none)
/-- tuples within tuples: n deep -/
def ltD : Nat → D → D → Option Bool
  | 0, d, e => ltI d e
  | n + 1, d, e => (match d, e with
    | .tup xs, .tup ys => ltL (ltD n) xs ys
    | _, _ => ltI d e)
def asI : List D → Option (List Int)
  | [] => some []
  | .int i :: r => match asI r with | some is => some (i :: is) | none => none
  | _ => none
def asB : List D → Option (List Bool)
  | [] => some []
  | .bl b :: r => match asB r with | some bs => some (b :: bs) | none => none
  | _ => none
def minL : List Int → Option Int
  | [] => none
  | a :: r => match minL r with | none => some a | some b => some (if a ≤ b then a else b)
def maxL : List Int → Option Int
  | [] => none
  | a :: r => match maxL r with | none => some a | some b => some (if b ≤ a then a else b)
def insI (a : Int) : List Int → List Int
  | [] => [a]
  | b :: r => if a ≤ b then a :: b :: r else b :: insI a r
def sortI : List Int → List Int
  | [] => []
  | a :: r => insI a (sortI r)
def flatD : D → Bool
  | .non => true | .bl _ => true | .int _ => true | .str _ => true | _ => false
def inP (x y : D) : Option Bool := match toPy x, toPy y with
  | some q, some (.list qs) => if SeqAt.shaped (.list qs) && SeqAt.shaped q then some (qs.any fun z => PyData.eqv z q) else none
  | some q, some (.tuple qs) => if SeqAt.shaped (.tuple qs) && SeqAt.shaped q then some (qs.any fun z => PyData.eqv z q) else none
  | _, _ => none
def idxP : List PyData → PyData → Option Nat
  | [], _ => none
  | z :: r, q => if PyData.eqv z q then some 0 else (idxP r q).map (· + 1)
def isTy : Ty → D → Option Bool
  | .int, .int _ => some true | .int, .bl _ => some true
  | .bool, .bl _ => some true
  | .str, .str _ => some true
  | .tup, .tup _ => some true
  | .lst, .lst _ => some true
  | .dct, .dct _ _ => some true
  | .cls c, .obj c' _ _ => some (decide (c = c'))
  | _, .fls _ => none | _, .set _ => none | _, .exc _ _ _ => none | _, .thk _ _ => none
  | _, _ => some false
def isTys : List Ty → D → Option Bool
  | [], d => some false
  | t :: ts, d => match isTy t d, isTys ts d with | some a, some b => some (a || b) | _, _ => none
def rngI (a : Int) (n : Nat) : List D := (List.range n).map fun (k : Nat) => D.int (a + (k : Int))
def rngC (a c : Int) (n : Nat) : List D := (List.range n).map fun (k : Nat) => D.int (a + (k : Int) * c)
def inB (i : Int) : Bool := decide (-(2 ^ 62) ≤ i ∧ i < 2 ^ 62)
abbrev Rn := Option (D × Bool)
def i1 (f : Int → Rn) : List D → Rn | [.int i] => f i | _ => none
def i2 (f : Int → Int → Rn) : List D → Rn | [.int i, .int j] => f i j | _ => none
def a1 (f : D → Rn) : List D → Rn | [d] => f d | _ => none
def a2 (f : D → D → Rn) : List D → Rn | [d, e] => f d e | _ => none
def l1 (f : List D → Rn) : List D → Rn | [.lst xs] => f xs | _ => none
def oB (r : Option Bool) : Rn := match r with | some b => some (.bl b, false) | none => none
def oI (r : Option Int) : Rn := match r with | some i => some (.int i, false) | none => none
def gd (c : Bool) (r : D × Bool) : Rn := if c then some r else none
def rAdd3 : List D → Rn
  | [.int i, .int j] => some (.int (i + j), false)
  | [.tup xs, .tup ys] => gd (fit (xs.length + ys.length)) (.tup (xs ++ ys), false)
  | [.lst xs, .lst ys] => gd (fit (xs.length + ys.length)) (.lst (xs ++ ys), true)
  | [.str a, .str b] => gd (fit (a.length + b.length)) (.str (a ++ b), false)
  | _ => none
def rRep3 : List D → Rn
  | [.lst xs, .int k] => gd (decide (-(2 ^ 63) ≤ k ∧ k < 2 ^ 63) && fit (xs.length * k.toNat)) (.lst ((List.replicate k.toNat xs).flatten), true)
  | [.tup xs, .int k] => gd (decide (2 ≤ k ∧ k ≤ 1000 ∧ xs.length ≤ 1000 ∧ 0 < xs.length)) (.tup ((List.replicate k.toNat xs).flatten), false)
  | _ => none
def rLt3 : List D → Rn
  | [.int i, .int j] => some (.bl (decide (i < j)), false)
  | [.tup xs, .tup ys] => oB (ltD 3 (.tup xs) (.tup ys))
  | _ => none
def seqD2 : D → Option (List D)
  | .tup xs => some xs | .lst xs => some xs | _ => none
def rIdx3 : List D → Rn
  | [.tup xs, .int i] => (match atI xs i with | some d => some (d, false) | none => none)
  | [.lst xs, .int i] => (match atI xs i with | some d => some (d, false) | none => none)
  | _ => none
def slice3 (x : D) (lo hi : Option Int) : Rn := match x with
  | .tup xs => some (.tup (cut xs lo hi), false)
  | .lst xs => some (.lst (cut xs lo hi), true)
  | .fls xs => some (.lst (cut xs lo hi), true)
  | _ => none
def rRev3 : D → Rn
  | .tup xs => some (.tup xs.reverse, false)
  | .lst xs => some (.lst xs.reverse, true)
  | .fls xs => some (.lst xs.reverse, true)
  | _ => none
/-- ascending, each once -/
def insS (a : Int) : List Int → List Int
  | [] => [a]
  | b :: r => if a < b then a :: b :: r else if a = b then b :: r else b :: insS a r
def sortS : List Int → List Int
  | [] => []
  | a :: r => insS a (sortS r)
def rSrtS (d : D) : Option (D × Bool) := match seqD2 d with
  | some xs => (match asI xs with
    | some is => if is.length < 64 then some (.lst ((sortS is).map D.int), true) else none
    | none => none)
  | none => none
def rLen3 : D → Rn
  | .tup xs => some (.int xs.length, false)
  | .lst xs => some (.int xs.length, false)
  | .fls xs => some (.int xs.length, false)
  | _ => none
def isNone : D → Bool | .non => true | _ => false
def fldD (f : Str) : D → Rn
  | .obj _ ns xs => (match (ns.zip xs).lookup f with | some d => some (d, false) | none => none)
  | _ => none
def fldX (f : Str) : D → Rn
  | .exc _ ns xs => (match (ns.zip xs).lookup f with | some d => some (d, false) | none => none)
  | _ => none
def isX (cs : List Nat) : D → Rn
  | .exc c _ _ => some (.bl (cs.contains c), false)
  | _ => none
def Op.run (o : Op) (ds : List D) : Rn := match o with
  | .glb d => (match ds with | [] => some (d, false) | _ => none)
  | .add => rAdd3 ds
  | .sub => i2 (fun i j => some (.int (i - j), false)) ds
  | .mul => i2 (fun i j => gd (mulOk i j) (.int (i * j), false)) ds
  | .rep => rRep3 ds
  | .fdiv => i2 (fun i j => gd (divOk i j) (.int (i / j), false)) ds
  | .mod => i2 (fun i j => gd (decide (0 < j)) (.int (i % j), false)) ds
  | .pow => i2 (fun i j => gd (decide (CPow i j)) (.int (i ^ j.toNat), false)) ds
  | .shl => i2 (fun i j => gd (decide (CPow i j)) (.int (i * 2 ^ j.toNat), false)) ds
  | .shr => i2 (fun i j => gd (decide (0 ≤ j)) (.int (i / 2 ^ j.toNat), false)) ds
  | .band => i2 (fun i j => some (.int (Builtin.bitAnd i j), false)) ds
  | .bor => i2 (fun i j => some (.int (Builtin.bitOr i j), false)) ds
  | .bxor => i2 (fun i j => some (.int (Builtin.bitXor i j), false)) ds
  | .neg => i1 (fun i => some (.int (-i), false)) ds
  | .eq => a2 (fun a b => oB (eqD a b)) ds
  | .ne => a2 (fun a b => oB ((eqD a b).map (! ·))) ds
  | .lt => rLt3 ds
  | .le => i2 (fun i j => some (.bl (decide (i ≤ j)), false)) ds
  | .gt => i2 (fun i j => some (.bl (decide (j < i)), false)) ds
  | .ge => i2 (fun i j => some (.bl (decide (j ≤ i)), false)) ds
  | .isN => a1 (fun d => some (.bl (isNone d), false)) ds
  | .notN => a1 (fun d => some (.bl (!isNone d), false)) ds
  | .inn => a2 (fun x y => oB (inP x y)) ds
  | .nin => a2 (fun x y => oB ((inP x y).map (! ·))) ds
  | .idx => rIdx3 ds
  | .tup => gd (fit ds.length) (.tup ds, false)
  | .lst => gd (fit ds.length) (.lst ds, true)
  | .len => a1 rLen3 ds
  | .revs => a1 rRev3 ds
  | .srtS => a1 rSrtS ds
  | .dsp1 k => a1 (fun d => some (.dct [k] [d], true)) ds
  | .isb => (match ds with | [.bl a, .bl b] => some (.bl (decide (a = b)), false) | _ => none)
  | .nsb => (match ds with | [.bl a, .bl b] => some (.bl (!decide (a = b)), false) | _ => none)
  | .abs => i1 (fun i => some (.int (if i < 0 then -i else i), false)) ds
  | .int => (match ds with | [.int i] => some (.int i, false) | [.bl b] => some (.int (if b then 1 else 0), false) | _ => none)
  | .sum => a1 (fun d => match seqD2 d with | some xs => oI ((asI xs).map List.sum) | none => none) ds
  | .min => a1 (fun d => match seqD2 d with | some xs => oI ((asI xs).bind minL) | none => none) ds
  | .max => a1 (fun d => match seqD2 d with | some xs => oI ((asI xs).bind maxL) | none => none) ds
  | .min2 => i2 (fun i j => some (.int (if j < i then j else i), false)) ds
  | .max2 => i2 (fun i j => some (.int (if j > i then j else i), false)) ds
  | .any => l1 (fun xs => oB ((asB xs).map fun bs => bs.any id)) ds
  | .all => l1 (fun xs => oB ((asB xs).map fun bs => bs.all id)) ds
  | .srt => a1 (fun d => match seqD2 d with | some xs => (match asI xs with | some is => some (.lst ((sortI is).map D.int), true) | none => none) | none => none) ds
  | .tupOf => a1 (fun d => match seqD2 d with | some xs => some (.tup xs, false) | none => none) ds
  | .lstOf => a1 (fun d => match seqD2 d with | some xs => some (.lst xs, true) | none => none) ds
  | .isi ts => a1 (fun d => oB (isTys ts d)) ds
  | .fld f => a1 (fldD f) ds
  | .dnew => (match ds with | [] => some (.dct [] [], true) | _ => none)
  | .isx cs => a1 (isX cs) ds
  | .fldx f => a1 (fldX f) ds
  | .count => a2 (fun x y => match toPy x, toPy y with
    | some (.list qs), some q => if SeqAt.shaped (.list qs) && SeqAt.shaped q then some (.int ((qs.countP fun z => PyData.eqv z q : Nat) : Int), false) else none
    | _, _ => none) ds
  | .index => a2 (fun x y => match toPy x, toPy y with
    | some (.list qs), some q => if SeqAt.shaped (.list qs) && SeqAt.shaped q then oI ((idxP qs q).map fun n => (n : Int)) else none
    | _, _ => none) ds
  | _ => none
/-- the thing behind, and what is told -/
def Mt.run : Mt → D → List D → Option (D × D)
  | .app, .lst xs, [y] => if decide (xs.length < sizeLine) then some (.lst (xs ++ [y]), .non) else none
  | .ext, .lst xs, [.lst ys] => if fit (xs.length + ys.length) then some (.lst (xs ++ ys), .non) else none
  | .pop, .lst xs, [] => match xs[xs.length - 1]? with | some y => some (.lst xs.dropLast, y) | none => none
  | .popAt, .lst xs, [.int i] => if decide (-(2 ^ 63) ≤ i ∧ i < 2 ^ 63) then (match ixN xs.length i with | some k => (match xs[k]? with | some y => some (.lst (xs.eraseIdx k), y) | none => none) | none => none) else none
  | .seti, .lst xs, [y, .int i] => match ixN xs.length i with | some k => some (.lst (xs.set k y), .non) | none => none
  | .clear, .lst xs, [] => some (.lst [], .non)
  | _, _, _ => none
def zipD : List D → List D → List D
  | x :: xs, y :: ys => .tup [x, y] :: zipD xs ys
  | _, _ => []
def seqD : D → Option (List D)
  | .tup xs => some xs | .lst xs => some xs | .fls xs => some xs | _ => none
def enmD : Nat → List D → List D
  | _, [] => []
  | n, x :: xs => .tup [.int n, x] :: enmD (n + 1) xs
def kSeq : List D → Option (List D) | [x] => seqD x | _ => none
def kRng1 : List D → Option (List D) | [.int j] => if inB j then some (rngI 0 j.toNat) else none | _ => none
def kRng2 : List D → Option (List D) | [.int i, .int j] => if inB i && inB j then some (rngI i (j - i).toNat) else none | _ => none
def rgOk (i j c : Int) : Bool := decide (c ≠ 0 ∧ c.natAbs < 1073741824) && Builtin.Range.small i j c && decide (0 ≤ Builtin.Range.rangeSize i j c)
def kRng3 : List D → Option (List D) | [.int i, .int j, .int c] => if rgOk i j c then some (rngC i c (Builtin.Range.rangeSize i j c).toNat) else none | _ => none
def kZip : List D → Option (List D)
  | [.lst xs, .lst ys] => some (zipD xs ys)
  | [.tup xs, .tup ys] => some (zipD xs ys)
  | _ => none
def kEnm : List D → Option (List D)
  | [.lst xs] => some (enmD 0 xs)
  | [.tup xs] => some (enmD 0 xs)
  | _ => none
def kRev : List D → Option (List D)
  | [.lst xs] => some xs.reverse
  | [.tup xs] => some xs.reverse
  | _ => none
def ItK.run (k : ItK) (ds : List D) : Option (List D) := match k with
  | .seq => kSeq ds | .rng1 => kRng1 ds | .rng2 => kRng2 ds | .rng3 => kRng3 ds | .zip => kZip ds | .enm => kEnm ds | .rev => kRev ds

/-! ### slots -/
def rdVar (i : Nat) (en : En) : Rs (D × Bool) := match en[i]? with
  | some (some (.sh, d)) => .ok (d, false) en
  | some (some (.brs, d)) => .ok (d, false) en
  | some (some (.own, d)) => .ok (d, false) (en.set i (some (.sh, d)))
  | some (some (.brw, d)) => .ok (d, false) (en.set i (some (.brs, d)))
  | _ => .bad
def mvVar (i : Nat) (en : En) : Rs (D × Bool) := match en[i]? with
  | some (some (.own, d)) => .ok (d, true) (en.set i none)
  | _ => rdVar i en
/-- a slot is stored -/
def stVar (i : Nat) (d : D) (own : Bool) (en : En) : Option En := match en[i]? with
  | none => none
  | some (some (.brw, _)) => none
  | some (some (.brs, _)) => none
  | _ => some (en.set i (some (if own then .own else .sh, d)))
def stVars : List Nat → List D → En → Option En
  | [], [], en => some en
  | i :: is, d :: ds, en => (match stVar i d false en with | some en => stVars is ds en | none => none)
  | _, _, _ => none
def stVarsO : List Nat → List (D × Bool) → En → Option En
  | [], [], en => some en
  | i :: is, p :: ps, en => (match stVar i p.1 p.2 en with | some en => stVarsO is ps en | none => none)
  | _, _, _ => none
def stTg : Tg → D → Bool → En → Option En
  | .nm i, d, own, en => stVar i d own en
  | .tp is, .tup ds, false, en => stVars is ds en
  | .tpt i is, .tup [d, .tup ds], false, en => (match stVar i d false en with | some en => stVars is ds en | none => none)
  | _, _, _, _ => none
def Tg.slots : Tg → List Nat
  | .nm i => [i] | .tp is => is | .tpt i is => i :: is
def stR : Option En → Rs Unit
  | some en => .ok () en | none => .bad
/-- where no error may leave -/
def noEr {α : Type} : Rs α → Rs α
  | .ok a en => .ok a en | _ => .bad
def avD (en : En) : Av → Option D
  | .v d => some d
  | .p i => match en[i]? with | some (some (_, d)) => some d | _ => none
def avDs (en : En) : List Av → Option (List D)
  | [] => some []
  | a :: as => match avD en a, avDs en as with | some d, some ds => some (d :: ds) | _, _ => none
def argOf (e : E) (r : Rs (D × Bool)) (en : En) : Rs Av := match e with
  | .pk i => match en[i]? with | some (some _) => .ok (.p i) en | _ => .bad
  | _ => r.bind fun p en => .ok (.v p.1) en
/-- how arguments are handed to a def: lent, or shared -/
def passA : List Bool → List Av → List Nat → En → Option (List (Bool × D))
  | [], [], _, _ => some []
  | _ :: ms, .v d :: as, us, en => match passA ms as us en with | some r => some ((false, d) :: r) | none => none
  | m :: ms, .p i :: as, us, en => match en[i]? with
    | some (some (ow, d)) =>
      if ow.isOwn then
        (if m && !us.contains i then (match passA ms as (i :: us) en with | some r => some ((true, d) :: r) | none => none) else none)
      else (match passA ms as us en with | some r => some ((false, d) :: r) | none => none)
    | _ => none
  | _, _, _, _ => none
/-- .. and come back -/
def backA : List Av → List (Bool × D) → List Cell → En → Option En
  | [], [], _, en => some en
  | .p i :: as, (true, _) :: gs, o :: os, en => match en[i]?, o with
    | some (some (ow, _)), some (ow', d) =>
      if ow' = .brw then backA as gs os (en.set i (some (ow, d)))
      else if ow' = .brs then backA as gs os (en.set i (some (if ow = .brw then .brs else .sh, d)))
      else none
    | _, _ => none
  | _ :: as, (false, _) :: gs, _ :: os, en => backA as gs os en
  | _, _, _, _ => none
/-- arguments that are kept: none that is only looked at -/
def vDs : List Av → Option (List D)
  | [] => some []
  | .v d :: as => match vDs as with | some ds => some (d :: ds) | none => none
  | .p _ :: _ => none
def Op.keeps : Op → Bool
  | .tup => true | .lst => true | .dsp1 _ => true | _ => false
def opFin (o : Op) (avs : List Av) (en : En) : Rs (D × Bool) := match (if o.keeps then vDs avs else avDs en avs) with
  | none => .bad
  | some ds => match o.run ds with | some p => .ok p en | none => .bad
def itFin (k : ItK) (avs : List Av) (en : En) : Rs (List D) := match vDs avs with
  | none => .bad
  | some ds => match k.run ds with | some items => .ok items en | none => .bad
def slFin (lo hi : Option Int) (a : Av) (en : En) : Rs (D × Bool) := match avD en a with
  | none => .bad
  | some d => match slice3 d lo hi with | some p => .ok p en | none => .bad
/-- what a method's thing must be -/
def mtPre (d : D) : Bool := match d with | .lst _ => true | _ => false
def mtAt (i : Nat) (en : En) : Bool := match en[i]? with | some (some (ow, d)) => ow.isOwn && mtPre d | _ => false
def mtFin (m : Mt) (i : Nat) (avs : List Av) (en : En) : Rs (D × Bool) := match vDs avs, en[i]? with
  | some ds, some (some (ow, d)) => if ow.isOwn then (match m.run d ds with
      | some (d', r) => .ok (r, false) (en.set i (some (ow, d')))
      | none => .bad) else .bad
  | _, _ => .bad
def fldSet (f : Str) (d : D) : List Str → List D → List Str × List D
  | n :: ns, x :: xs => if n = f then (n :: ns, d :: xs) else (match fldSet f d ns xs with | (ns, xs) => (n :: ns, x :: xs))
  | _, _ => ([f], [d])
def keepB (c : Cell) : Cell := match c with
  | some (ow, d) => if ow.isB then some (ow, d) else none
  | none => none
def wipeE (en : En) : List Nat → En
  | [] => en
  | v :: vs => (wipeE en vs).set v none
def shE (en : En) (v : Nat) : Bool := match en[v]? with
  | some none => true
  | some (some (.sh, _)) => true
  | _ => false
def restE (en0 en : En) : List Nat → En
  | [] => en
  | v :: vs => (restE en0 en vs).set v ((en0[v]?).getD none)

inductive Fl where | nx | br | ct | rt (d : D) (own : Bool)
mutual
/-- no exception within -/
def noX : D → Bool
  | .tup xs => noXs xs | .lst xs => noXs xs | .fls xs => noXs xs | .dct _ xs => noXs xs | .obj _ _ xs => noXs xs
  | .exc _ _ _ => false
  | _ => true
def noXs : List D → Bool
  | [] => true
  | x :: xs => noX x && noXs xs
end
def noXf : Fl → Bool
  | .rt d _ => noX d | _ => true
def noXc : Cell → Bool
  | some (_, d) => noX d | none => true

def stfFin (f : Str) (i : Nat) (x : Av) (en : En) : Rs Fl := match x, en[i]? with
  | .v d, some (some (ow, .obj c ns xs)) => if ow.isOwn && decide (ns.length < 1000) then .ok .nx (en.set i (some (ow, .obj c (fldSet f d ns xs).1 (fldSet f d ns xs).2))) else .bad
  | _, _ => .bad
/-- a list of ours that is walked: hidden meanwhile -/
@[reducible] def frz : Cell := some (.brs, .thk true .non)
/-- .. and back -/
def unfz {α : Type} (i : Nat) (c : Ow × D) : Rs α → Rs α
  | .ok x en => (match en[i]? with
    | some (some (.brs, .thk true .non)) => .ok x (en.set i (some c))
    | _ => .bad)
  | .er x en => (match en[i]? with
    | some (some (.brs, .thk true .non)) => .er x (en.set i (some c))
    | _ => .bad)
  | .bad => .bad
/-- what is walked, its owner, the slots meanwhile -/
def walkD (i : Nat) (ow : Ow) (d : D) (en : En) : Option (List D × Option (Ow × D) × En) := if ow.isOwn then (match d with | .lst xs => some (xs, some (ow, .lst xs), en.set i frz) | _ => none) else (match seqD d with | some xs => some (xs, none, en) | none => none)
def walkP (i : Nat) (en : En) : Option (List D × Option (Ow × D) × En) := match en[i]? with
  | some (some (ow, d)) => walkD i ow d en
  | _ => none
def unfzO {α : Type} (i : Nat) (c : Option (Ow × D)) (r : Rs α) : Rs α := match c with | some c => unfz i c r | none => r
/-! ### the evaluator: w bounds the turns of a while; C calls a def -/
def loopF (f : D → En → Rs Fl) : List D → En → Rs Fl
  | [], en => .ok .nx en
  | d :: ds, en => (f d en).bind fun fl en => match fl with
    | .nx => loopF f ds en
    | .ct => loopF f ds en
    | .br => .ok .nx en
    | .rt d o => .ok (.rt d o) en
def loopW (c : En → Rs Bool) (b : En → Rs Fl) : Nat → En → Rs Fl
  | 0, _ => .bad
  | n + 1, en => (c en).bind fun k en => if k then (b en).bind fun fl en => match fl with
      | .nx => loopW c b n en
      | .ct => loopW c b n en
      | .br => .ok .nx en
      | .rt d o => .ok (.rt d o) en
    else .ok .nx en
def loopC (vs : List Nat) (tg : Tg) (c : En → Rs Bool) (f : En → Rs (D × Bool)) : List D → List D → En → Rs (List D)
  | [], acc, en => .ok acc en
  | d :: ds, acc, en => (stR (stTg tg d false en)).bind fun _ en => (noEr (c en)).bind fun k en =>
      if k then (noEr (f en)).bind fun p en => if decide (acc.length < sizeLine) then loopC vs tg c f ds (acc ++ [p.1]) (wipeE en vs) else .bad
      else loopC vs tg c f ds acc (wipeE en vs)
def toI (r : Rs (D × Bool)) : Rs Int := r.bind fun p en => match p.1 with | .int b => .ok b en | _ => .bad
def toB (r : Rs (D × Bool)) : Rs Bool := r.bind fun p en => match p.1 with | .bl b => .ok b en | _ => .bad

section
variable (w : Nat) (C : Nat → List (Bool × D) → CRes) (md : Nat → List Bool)
def doCall (f : Nat) (avs : List Av) (en : En) : Rs (D × Bool) := match passA (md f) avs [] en with
  | none => .bad
  | some args => match C f args with
    | .bad => .bad
    | .ok d own outs => (match backA avs args outs en with | some en => .ok (d, own) en | none => .bad)
    | .er x outs => (match backA avs args outs en with | some en => .er x en | none => .bad)
def mkFin (c f : Nat) (avs : List Av) (en : En) : Rs (D × Bool) := match vDs avs with
  | none => .bad
  | some ds => match C f ((true, .obj c [] []) :: ds.map fun d => (false, d)) with
    | .ok .non _ (some (.brw, d) :: _) => .ok (d, true) en
    | .ok .non _ (some (.brs, d) :: _) => .ok (d, false) en
    | .er x _ => .er x en
    | _ => .bad
mutual
def evE : E → En → Rs (D × Bool)
  | .cst d, en => .ok (d, false) en
  | .var i, en => rdVar i en
  | .mv i, en => mvVar i en
  | .pk _, _ => .bad
  | .op o as, en => (evA as en).bind (opFin o)
  | .sl0 a, en => (argOf a (evE a en) en).bind fun x en => slFin none none x en
  | .slA a l, en => (argOf a (evE a en) en).bind fun x en => (toI (evE l en)).bind fun i en => slFin (some i) none x en
  | .slB a h, en => (argOf a (evE a en) en).bind fun x en => (toI (evE h en)).bind fun j en => slFin none (some j) x en
  | .slC a l h, en => (argOf a (evE a en) en).bind fun x en => (toI (evE l en)).bind fun i en => (toI (evE h en)).bind fun j en => slFin (some i) (some j) x en
  | .and a b, en => (toB (evE a en)).bind fun k en => if k then evE b en else .ok (.bl false, false) en
  | .or a b, en => (toB (evE a en)).bind fun k en => if k then .ok (.bl true, false) en else evE b en
  | .ite c a b, en => (toB (evE c en)).bind fun k en => if k then evE a en else evE b en
  | .nt a, en => (toB (evE a en)).bind fun k en => .ok (.bl (!k), false) en
  | .chn o1 o2 a b c, en => (argOf a (evE a en) en).bind fun x en => (argOf b (evE b en) en).bind fun y en =>
    (toB (opFin o1 [x, y] en)).bind fun k en => if k then (argOf c (evE c en) en).bind fun z en => opFin o2 [y, z] en else .ok (.bl false, false) en
  | .call f as, en => (evA as en).bind (doCall C md f)
  | .mk c f as, en => (evA as en).bind (mkFin C c f)
  | .lc vs tg k as c e, en => (evA as en).bind fun avs en => (itFin k avs en).bind fun items en => if vs.all (shE en) && tg.slots.all vs.contains then
      (loopC vs tg (fun en => toB (evE c en)) (fun en => evE e en) items [] (wipeE en vs)).bind fun xs en' => .ok (.lst xs, true) (restE en en' vs)
    else .bad
  | .mth o x a, en => (argOf x (evE x en) en).bind fun x en => if (avD en x).any mtPre then (argOf a (evE a en) en).bind fun y en => opFin o [x, y] en else .bad
  | .mt m i as, en => if mtAt i en then (evA as en).bind (mtFin m i) else .bad
  | .lam f e, en => match evE e en with
    | .ok p en => (match C f [(false, .thk true p.1)] with | .ok d own _ => .ok (d, own) en | _ => .bad)
    | .er x en => (match C f [(false, .thk false (.exc x.c x.ns x.xs))] with | .ok d own _ => .ok (d, own) en | _ => .bad)
    | .bad => .bad
  | .cl i fs as, en => match en[i]? with
    | some (some (ow, .set [m])) => if !ow.isOwn && fs.contains m.toNat then (evA as en).bind (doCall C md m.toNat) else .bad
    | _ => .bad
  | .lcp vs tg i c e, en => match walkP i en with
    | some (xs, k, en1) => if vs.all (shE en1) && tg.slots.all vs.contains then
        unfzO i k ((loopC vs tg (fun en => toB (evE c en)) (fun en => evE e en) xs [] (wipeE en1 vs)).bind fun ys en' => .ok (.lst ys, true) (restE en1 en' vs))
      else .bad
    | none => .bad
def evA : Es → En → Rs (List Av)
  | .nil, en => .ok [] en
  | .cons e es, en => (argOf e (evE e en) en).bind fun a en => (evA es en).bind fun as en => .ok (a :: as) en
end
def evP : Es → En → Rs (List (D × Bool))
  | .nil, en => .ok [] en
  | .cons e es, en => (evE C md e en).bind fun p en => (evP es en).bind fun ps en => .ok (p :: ps) en
mutual
def evS : S → En → Rs Fl
  | .asg tg e, en => (evE C md e en).bind fun p en => (stR (stTg tg p.1 p.2 en)).bind fun _ en => .ok .nx en
  | .par is as, en => (evP C md as en).bind fun ps en => (stR (stVarsO is ps en)).bind fun _ en => .ok .nx en
  | .ex e, en => (evE C md e en).bind fun _ en => .ok .nx en
  | .seti i v ix, en => (argOf v (evE C md v en) en).bind fun x en => if mtAt i en then (argOf ix (evE C md ix en) en).bind fun y en => (mtFin .seti i [x, y] en).bind fun _ en => .ok .nx en else .bad
  | .setf f i v, en => (argOf v (evE C md v en) en).bind fun x en => stfFin f i x en
  | .ife c a b, en => (toB (evE C md c en)).bind fun k en => if k then evSs a en else evSs b en
  | .whl c b, en => loopW (fun en => toB (evE C md c en)) (fun en => evSs b en) w en
  | .fr tg k as b, en => (evA C md as en).bind fun avs en => (itFin k avs en).bind fun items en => loopF (fun d en => (stR (stTg tg d false en)).bind fun _ en => evSs b en) items en
  | .ret e, en => (evE C md e en).bind fun p en => .ok (.rt p.1 p.2) en
  | .pass, en => .ok .nx en
  | .brk, en => .ok .br en
  | .cnt, en => .ok .ct en
  | .rse c ns as, en => (evA C md as en).bind fun avs en => match vDs avs with
    | some ds => .er ⟨c, ns, ds⟩ en
    | none => .bad
  | .tryw ci ei cs b, en => match en[ci]? with
    | some (some (_, .thk true _)) => .ok .nx en
    | some (some (_, .thk false (.exc c ns xs))) => if cs.contains c then
        (match evSs b ((List.replicate en.length none).set ei (some (.sh, .exc c ns xs))) with
          | .ok fl en => if noXf fl && (en.set ei none).all noXc then .ok fl (en.set ei none) else .bad
          | _ => .bad) else .bad
    | _ => .bad
  | .frp tg i b, en => match walkP i en with
    | some (xs, k, en1) => unfzO i k (loopF (fun d en => (stR (stTg tg d false en)).bind fun _ en => evSs b en) xs en1)
    | none => .bad
def evSs : Ss → En → Rs Fl
  | .nil, en => .ok .nx en
  | .cons s ss, en => (evS s en).bind fun fl en => match fl with
    | .nx => evSs ss en
    | .br => .ok .br en
    | .ct => .ok .ct en
    | .rt d o => .ok (.rt d o) en
end
end

/-- a def: its parameters' number, its slots' number, how parameters are lent, its body -/
structure Fn where
  np : Nat
  nn : Nat
  md : List Bool
  body : Ss
def cellOf : Bool × D → Cell := fun p => some (if p.1 then .brw else .sh, p.2)
def start3 (nn : Nat) (args : List (Bool × D)) : En := args.map cellOf ++ List.replicate (nn - args.length) none
/-- what is told of the parameters behind the call -/
def outsOf (np : Nat) (en : En) : List Cell := (List.range np).map fun i => keepB ((en[i]?).getD none)
def resOf (np : Nat) : Rs Fl → CRes
  | .ok .nx en => .ok .non false (outsOf np en)
  | .ok (.rt d o) en => .ok d o (outsOf np en)
  | .er x en => .er x (outsOf np en)
  | _ => .bad
def runFn (w : Nat) (C : Nat → List (Bool × D) → CRes) (md : Nat → List Bool) (fn : Fn) (args : List (Bool × D)) : CRes :=
  if args.length = fn.np then resOf fn.np (evSs w C md fn.body (start3 fn.nn args)) else .bad
def mdOf (T : List Fn) (f : Nat) : List Bool := match T[f]? with | some fn => fn.md | none => []
/-- a call, at most n deep -/
def callD (T : List Fn) (w : Nat) : Nat → Nat → List (Bool × D) → CRes
  | 0, _, _ => .bad
  | n + 1, f, args => match T[f]? with
    | some fn => runFn w (callD T w n) (mdOf T) fn args
    | none => .bad
end L3

/-! L3B: what data stand for in the abstract heap; the separation of a state. -/
namespace L3
open PySem PySem.Spec PyProof.Rows L2

/-- the written part, the classes' addresses, the tables of code objects -/
structure Wd where
  K : PySem.W.Frag
  ca : Nat → Addr
  T : List (Addr × Str)
  ok : Nat → Prop
  /-- the thing handed in that is called; the exception that is looked at -/
  th : Addr → Prop
  ex : Addr → Nat → Option Addr → Prop
  xk : Nat → Prop
  /-- the defs as values -/
  fv : Nat → Addr → Prop

mutual
inductive Rep (Y : Wd) (G : Hp) : V → D → Prop
  | non : Rep Y G .non .non
  | bl (b : Bool) : Rep Y G (.bl b) (.bl b)
  | int (i : Int) : Rep Y G (.int i) (.int i)
  | str (s : Str) : Rep Y G (.str s) (.str s)
  | tup {a : Addr} {vs : List V} {ds : List D} : SqT Y.K G a vs → RepL Y G vs ds → Rep Y G (.ref a) (.tup ds)
  | lst {a : Addr} {vs : List V} {ds : List D} : G a = some (.lst vs) → RepL Y G vs ds → Rep Y G (.ref a) (.lst ds)
  | fls {a : Addr} {vs : List V} {ds : List D} : SqL Y.K G a vs → RepL Y G vs ds → Rep Y G (.ref a) (.fls ds)
  | dct {a : Addr} {kvs : List (Key × V)} {ks : List Key} {ds : List D} : G a = some (.dK kvs) → kvs.map (·.1) = ks → RepL Y G (kvs.map (·.2)) ds → Rep Y G (.ref a) (.dct ks ds)
  | obj {a dx : Addr} {c : Nat} {fs : List (Str × V)} {ns : List Str} {ds : List D} : Y.ok c → G a = some (.ins (Y.ca c) dx fs) → G dx = some (.own a) → fs.map (·.1) = ns → RepL Y G (fs.map (·.2)) ds → Rep Y G (.ref a) (.obj c ns ds)
  | thk {v : Addr} {b : Bool} {d : D} : Y.th v → Rep Y G (.ref v) (.thk b d)
  | fnv {a : Addr} {n : Nat} : Y.fv n a → Rep Y G (.ref a) (.set [(n : Int)])
  | exc0 {v : Addr} {c : Nat} : Y.ex v c none → Rep Y G (.ref v) (.exc c [] [])
  | exc1 {v : Addr} {c : Nat} {da : Addr} {fs : List (Str × V)} {ns : List Str} {ds : List D} : Y.ex v c (some da) → G da = some (.xd fs) → fs.map (·.1) = ns → RepL Y G (fs.map (·.2)) ds → Rep Y G (.ref v) (.exc c ns ds)
inductive RepL (Y : Wd) (G : Hp) : List V → List D → Prop
  | nil : RepL Y G [] []
  | cons {v : V} {vs : List V} {d : D} {ds : List D} : Rep Y G v d → RepL Y G vs ds → RepL Y G (v :: vs) (d :: ds)
end

theorem Same.seqT {K : PySem.W.Frag} {H H' : Hp} {a : Addr} {xs : List V} (e : Same H H') (h : SqT K H a xs) : SqT K H' a xs := by
  rcases h with (h | ⟨o, h⟩) | h
  · exact .inl (.inl (e _ _ h))
  · exact .inl (.inr ⟨o, e _ _ h⟩)
  · exact .inr h
section
variable {Y : Wd} {G G' : Hp}
mutual
theorem Rep.mono (s : Same G G') : ∀ {d : D} {v : V}, Rep Y G v d → Rep Y G' v d
  | .non, _, h => by cases h; exact .non
  | .bl b, _, h => by cases h; exact .bl b
  | .int i, _, h => by cases h; exact .int i
  | .str z, _, h => by cases h; exact .str z
  | .tup ds, _, h => by cases h with | tup h1 h2 => exact .tup (Same.seqT s h1) (RepL.mono s h2)
  | .lst ds, _, h => by cases h with | lst h1 h2 => exact .lst (s _ _ h1) (RepL.mono s h2)
  | .fls ds, _, h => by cases h with | fls h1 h2 => exact .fls (s.seq h1) (RepL.mono s h2)
  | .dct ks ds, _, h => by cases h with | dct h1 h2 h3 => exact .dct (s _ _ h1) h2 (RepL.mono s h3)
  | .obj c ns ds, _, h => by cases h with | obj h0 h1 h2 h3 h4 => exact .obj h0 (s _ _ h1) (s _ _ h2) h3 (RepL.mono s h4)
  | .set _, _, h => by cases h with | fnv h => exact .fnv h
  | .exc _ _ _, _, h => by
    cases h with
    | exc0 h => exact .exc0 h
    | exc1 h1 h2 h3 h4 => exact .exc1 h1 (s _ _ h2) h3 (RepL.mono s h4)
  | .thk _ _, _, h => by cases h with | thk h => exact .thk h
theorem RepL.mono (s : Same G G') : ∀ {ds : List D} {vs : List V}, RepL Y G vs ds → RepL Y G' vs ds
  | [], _, h => by cases h; exact .nil
  | d :: ds, _, h => by cases h with | cons h1 h2 => exact .cons (Rep.mono s h1) (RepL.mono s h2)
end
theorem RepL.length : ∀ {ds : List D} {vs : List V}, RepL Y G vs ds → vs.length = ds.length
  | [], _, h => by cases h; rfl
  | _ :: _, _, h => by cases h with | cons h1 h2 => simp [RepL.length h2]
theorem RepL.get : ∀ {ds : List D} {vs : List V} {i : Nat} {d : D}, RepL Y G vs ds → ds[i]? = some d → ∃ v, vs[i]? = some v ∧ Rep Y G v d
  | [], _, _, _, h, e => by simp at e
  | d :: ds, _, 0, x, h, e => by
    cases h with | cons h1 h2 =>
      simp at e; subst e; exact ⟨_, rfl, h1⟩
  | d :: ds, _, i + 1, x, h, e => by
    cases h with | cons h1 h2 =>
      simp at e
      obtain ⟨v, e1, e2⟩ := RepL.get h2 e
      exact ⟨v, by simpa using e1, e2⟩
theorem RepL.getV : ∀ {ds : List D} {vs : List V} {i : Nat} {v : V}, RepL Y G vs ds → vs[i]? = some v → ∃ d, ds[i]? = some d ∧ Rep Y G v d
  | [], _, _, _, h, e => by cases h; simp at e
  | d :: ds, _, 0, x, h, e => by
    cases h with | cons h1 h2 =>
      simp at e; subst e; exact ⟨_, rfl, h1⟩
  | d :: ds, _, i + 1, x, h, e => by
    cases h with | cons h1 h2 =>
      simp at e
      obtain ⟨v, e1, e2⟩ := RepL.getV h2 e
      exact ⟨v, by simpa using e1, e2⟩
theorem RepL.append : ∀ {ds es : List D} {vs us : List V}, RepL Y G vs ds → RepL Y G us es → RepL Y G (vs ++ us) (ds ++ es)
  | [], _, _, _, h, q => by cases h; exact q
  | _ :: _, _, _, _, h, q => by cases h with | cons h1 h2 => exact .cons h1 (RepL.append h2 q)
theorem RepL.take : ∀ {ds : List D} {vs : List V} (n : Nat), RepL Y G vs ds → RepL Y G (vs.take n) (ds.take n)
  | _, _, 0, _ => .nil
  | [], _, n + 1, h => by cases h; exact .nil
  | _ :: _, _, n + 1, h => by cases h with | cons h1 h2 => exact .cons h1 (RepL.take n h2)
theorem RepL.drop : ∀ {ds : List D} {vs : List V} (n : Nat), RepL Y G vs ds → RepL Y G (vs.drop n) (ds.drop n)
  | _, _, 0, h => h
  | [], _, n + 1, h => by cases h; exact .nil
  | _ :: _, _, n + 1, h => by cases h with | cons h1 h2 => exact RepL.drop n h2
theorem RepL.set : ∀ {ds : List D} {vs : List V} (n : Nat) {v : V} {d : D}, RepL Y G vs ds → Rep Y G v d → RepL Y G (vs.set n v) (ds.set n d)
  | [], _, n, _, _, h, q => by cases h; exact .nil
  | _ :: _, _, 0, _, _, h, q => by cases h with | cons h1 h2 => exact .cons q h2
  | _ :: _, _, n + 1, _, _, h, q => by cases h with | cons h1 h2 => exact .cons h1 (RepL.set n h2 q)
theorem RepL.eraseIdx : ∀ {ds : List D} {vs : List V} (n : Nat), RepL Y G vs ds → RepL Y G (vs.eraseIdx n) (ds.eraseIdx n)
  | [], _, n, h => by cases h; exact .nil
  | _ :: _, _, 0, h => by cases h with | cons h1 h2 => exact h2
  | _ :: _, _, n + 1, h => by cases h with | cons h1 h2 => exact .cons h1 (RepL.eraseIdx n h2)
theorem RepL.dropLast {ds : List D} {vs : List V} (h : RepL Y G vs ds) : RepL Y G vs.dropLast ds.dropLast := by
  rw [List.dropLast_eq_take, List.dropLast_eq_take, h.length]; exact h.take _
theorem RepL.reverse : ∀ {ds : List D} {vs : List V}, RepL Y G vs ds → RepL Y G vs.reverse ds.reverse
  | [], _, h => by cases h; exact .nil
  | _ :: _, _, h => by
    cases h with | cons h1 h2 =>
      rw [List.reverse_cons, List.reverse_cons]
      exact (RepL.reverse h2).append (.cons h1 .nil)
theorem RepL.asI : ∀ {ds : List D} {vs : List V} {is : List Int}, RepL Y G vs ds → asI ds = some is → vs = is.map V.int
  | [], _, _, h, e => by cases h; cases e; rfl
  | .int i :: ds, _, is, h, e => by
    cases h with | cons h1 h2 =>
      cases h1
      unfold L3.asI at e
      split at e
      · rename_i js e2
        cases e
        rw [RepL.asI h2 e2]; rfl
      · cases e
  | .non :: _, _, _, _, e => by cases e
  | .bl _ :: _, _, _, _, e => by cases e
  | .str _ :: _, _, _, _, e => by cases e
  | .tup _ :: _, _, _, _, e => by cases e
  | .lst _ :: _, _, _, _, e => by cases e
  | .fls _ :: _, _, _, _, e => by cases e
  | .dct _ _ :: _, _, _, _, e => by cases e
  | .set _ :: _, _, _, _, e => by cases e
  | .obj _ _ _ :: _, _, _, _, e => by cases e
  | .exc _ _ _ :: _, _, _, _, e => by cases e
  | .thk _ _ :: _, _, _, _, e => by cases e
theorem RepL.asB : ∀ {ds : List D} {vs : List V} {is : List Bool}, RepL Y G vs ds → asB ds = some is → vs = is.map V.bl
  | [], _, _, h, e => by cases h; cases e; rfl
  | .bl i :: ds, _, is, h, e => by
    cases h with | cons h1 h2 =>
      cases h1
      unfold L3.asB at e
      split at e
      · rename_i js e2
        cases e
        rw [RepL.asB h2 e2]; rfl
      · cases e
  | .non :: _, _, _, _, e => by cases e
  | .int _ :: _, _, _, _, e => by cases e
  | .str _ :: _, _, _, _, e => by cases e
  | .tup _ :: _, _, _, _, e => by cases e
  | .lst _ :: _, _, _, _, e => by cases e
  | .fls _ :: _, _, _, _, e => by cases e
  | .dct _ _ :: _, _, _, _, e => by cases e
  | .set _ :: _, _, _, _, e => by cases e
  | .obj _ _ _ :: _, _, _, _, e => by cases e
  | .exc _ _ _ :: _, _, _, _, e => by cases e
  | .thk _ _ :: _, _, _, _, e => by cases e
theorem RepL.ofInts : ∀ (is : List Int), RepL Y G (is.map V.int) (is.map D.int)
  | [] => .nil
  | _ :: r => .cons (.int _) (RepL.ofInts r)
end

/-! ### what is owned -/
/-- the thing at a as it stands, its parts shared -/
inductive Top (Y : Wd) (G H : Hp) : Addr → D → Prop
  | lst {a : Addr} {vs : List V} {ds : List D} : H a = some (.lst vs) → RepL Y G vs ds → Top Y G H a (.lst ds)
  | dct {a : Addr} {kvs : List (Key × V)} {ks : List Key} {ds : List D} : H a = some (.dK kvs) → kvs.map (·.1) = ks → RepL Y G (kvs.map (·.2)) ds → Top Y G H a (.dct ks ds)
  | obj {a dx : Addr} {c : Nat} {fs : List (Str × V)} {ns : List Str} {ds : List D} : Y.ok c → H a = some (.ins (Y.ca c) dx fs) → G dx = some (.own a) → fs.map (·.1) = ns → RepL Y G (fs.map (·.2)) ds → Top Y G H a (.obj c ns ds)
def isMut : HO → Bool
  | .lst _ => true | .dK _ => true | .ins _ _ _ => true | _ => false
theorem Top.at {Y : Wd} {G H : Hp} {a : Addr} {d : D} (t : Top Y G H a d) : ∃ o, H a = some o ∧ isMut o = true := by
  cases t with
  | lst h _ => exact ⟨_, h, rfl⟩
  | dct h _ _ => exact ⟨_, h, rfl⟩
  | obj _ h _ _ _ => exact ⟨_, h, rfl⟩
theorem Top.keep {Y : Wd} {G G' H H' : Hp} {a : Addr} {d : D} (t : Top Y G H a d) (s : Same G G') (e : H' a = H a) : Top Y G' H' a d := by
  cases t with
  | lst h q => exact .lst (e.trans h) (q.mono s)
  | dct h k q => exact .dct (e.trans h) k (q.mono s)
  | obj h0 h x k q => exact .obj h0 (e.trans h) (s _ _ x) k (q.mono s)
theorem Top.rep {Y : Wd} {G H : Hp} {a : Addr} {d : D} {o : HO} (t : Top Y G H a d) (s : Same G (upd G a o)) (e : H a = some o) : Rep Y (upd G a o) (.ref a) d := by
  cases t with
  | lst h q =>
    rw [e] at h; cases h
    exact .lst upd_same (q.mono s)
  | dct h k q =>
    rw [e] at h; cases h
    exact .dct upd_same k (q.mono s)
  | obj h0 h x k q =>
    rw [e] at h; cases h
    exact .obj h0 upd_same (s _ _ x) k (q.mono s)
structure OwnAt (Y : Wd) (G R H : Hp) (a : Addr) (d : D) : Prop where
  g : G a = none
  r : R a = none
  t : Top Y G H a d

theorem same_new {H : Hp} {p : Addr} {o : HO} (h : H p = none) : Same H (upd H p o) := fun b x e => by
  rw [upd_ne (ne_of_none e h)]; exact e
theorem same_upd2 {G H : Hp} {p : Addr} {o : HO} (s : Same G H) (h : H p = some o) : Same (upd G p o) H := fun b x e => by
  by_cases hb : b = p
  · subst hb; rw [upd_same] at e; cases e; exact h
  · rw [upd_ne hb] at e; exact s _ _ e
theorem same_upds {G H : Hp} {p : Addr} {o : HO} (s : Same G H) : Same (upd G p o) (upd H p o) := fun b x e => by
  by_cases hb : b = p
  · subst hb; rw [upd_same] at e ⊢; exact e
  · rw [upd_ne hb] at e ⊢; exact s _ _ e
theorem same_wr {G H : Hp} {p : Addr} {o : HO} (s : Same G H) (h : G p = none) : Same G (upd H p o) := fun b x e => by
  rw [upd_ne (ne_of_none e h)]; exact s _ _ e

/-! ### tables of code objects -/
abbrev Tb (Y : Wd) (H : Hp) : Prop := LamX.Tabs Y.T H
theorem Tb.new {Y : Wd} {H : Hp} {p : Addr} {o : HO} (t : Tb Y H) (h : H p = none) : Tb Y (upd H p o) := t.ext (same_new h)
theorem Tb.wr {Y : Wd} {H : Hp} {p : Addr} {o o' : HO} (t : Tb Y H) (h : H p = some o) (m : isMut o = true) : Tb Y (upd H p o') := fun q hq => by
  obtain ⟨ps, h1, h2, h3⟩ := t q hq
  have ne1 : q.1 ≠ p := fun z => by rw [z, h] at h1; cases h1; cases m
  refine ⟨ps, by rw [upd_ne ne1]; exact h1, h2, fun pos cv hc => ?_⟩
  obtain ⟨c, e1, e2⟩ := h3 pos cv hc
  refine ⟨c, e1, ?_⟩
  have ne2 : c ≠ p := fun z => by
    rw [z, h] at e2
    unfold LamX.CodeO at e2
    cases e2
    cases m
  rw [upd_ne ne2]; exact e2

theorem notT_mut {o : HO} (m : isMut o = true) (ps : Array Value) : o ≠ .tbl ps := fun z => by subst z; cases m
def NoT (G : Hp) : Prop := ∀ a ps, G a ≠ some (.tbl ps)
structure TbN (Y : Wd) (G R H : Hp) : Prop where
  t : Tb Y H
  g : NoT G
  r : NoT R
section
variable {Y : Wd} {G R H : Hp} {p : Addr} {o o' : HO}
theorem TbN.new (t : TbN Y G R H) (h : H p = none) : TbN Y G R (upd H p o) := ⟨t.t.new h, t.g, t.r⟩
theorem TbN.wr (t : TbN Y G R H) (h : H p = some o) (m : isMut o = true) : TbN Y G R (upd H p o') := ⟨t.t.wr h m, t.g, t.r⟩
theorem NoT.upd (g : NoT G) (n : ∀ ps, o ≠ .tbl ps) : NoT (L2.upd G p o) := fun a ps z => by
  by_cases ha : a = p
  · subst ha; rw [upd_same] at z; cases z; exact n _ rfl
  · rw [upd_ne ha] at z; exact g _ _ z
theorem TbN.upG (t : TbN Y G R H) (n : ∀ ps, o ≠ .tbl ps) : TbN Y (L2.upd G p o) R H := ⟨t.t, t.g.upd n, t.r⟩
theorem TbN.upR (t : TbN Y G R H) (n : ∀ ps, o ≠ .tbl ps) : TbN Y G (L2.upd R p o) H := ⟨t.t, t.g, t.r.upd n⟩
end
/-! ### the state apart: shared, reserved, owned by slots -/
def isOwnC : Option Cell → Bool
  | some (some (ow, _)) => ow.isOwn
  | _ => false
def isBC : Option Cell → Bool
  | some (some (ow, _)) => ow.isB
  | _ => false
structure Sep (Y : Wd) (G R H : Hp) (σ : L2.St) (en : En) : Prop where
  gH : Same G H
  rH : Same R H
  gr : ∀ a o, R a = some o → G a = none
  len : σ.length = en.length
  sh : ∀ (i : Nat) (ow : Ow) (d : D), en[i]? = some (some (ow, d)) → ow.isOwn = false → ∃ v, σ[i]? = some (some v) ∧ Rep Y G v d
  own : ∀ (i : Nat) (ow : Ow) (d : D), en[i]? = some (some (ow, d)) → ow.isOwn = true → ∃ a, σ[i]? = some (some (.ref a)) ∧ OwnAt Y G R H a d
  apart : ∀ (i j : Nat) (a : Addr), isOwnC en[i]? = true → isOwnC en[j]? = true → σ[i]? = some (some (.ref a)) → σ[j]? = some (some (.ref a)) → i = j
  tb : TbN Y G R H
/-- no slot owns what stands at a -/
def Free (σ : L2.St) (en : En) (a : Addr) : Prop := ∀ i : Nat, isOwnC en[i]? = true → σ[i]? ≠ some (some (.ref a))
/-- a value as the evaluator tells it -/
def Vok (Y : Wd) (G R H : Hp) (σ : L2.St) (en : En) (v : V) (d : D) : Bool → Prop
  | false => Rep Y G v d
  | true => ∃ a, v = .ref a ∧ OwnAt Y G R H a d ∧ Free σ en a
/-- the caller's things stay where they are -/
def Keep (σ : L2.St) (en : En) (σ' : L2.St) (en' : En) : Prop := ∀ i : Nat, isBC en'[i]? = isBC en[i]? ∧ (isBC en[i]? = true → σ'[i]? = σ[i]?)
theorem Keep.refl (σ : L2.St) (en : En) : Keep σ en σ en := fun _ => ⟨rfl, fun _ => rfl⟩
theorem Keep.trans {σ1 σ2 σ3 : L2.St} {e1 e2 e3 : En} (a : Keep σ1 e1 σ2 e2) (b : Keep σ2 e2 σ3 e3) : Keep σ1 e1 σ3 e3 := fun i => by
  obtain ⟨h1, h2⟩ := a i
  obtain ⟨h3, h4⟩ := b i
  exact ⟨h3.trans h1, fun h => (h4 (h1.trans h)).trans (h2 h)⟩
/-- an exception -/
def ExOk (Y : Wd) (G : Hp) (x : Ex) (cls : Value) (dd : Option Addr) : Prop :=
  Y.xk x.c ∧ cls = .ref (Y.ca x.c) ∧ ((x.ns = [] ∧ x.xs = [] ∧ dd = none) ∨ ∃ (da : Addr) (fs : List (Str × V)), dd = some da ∧ G da = some (.xd fs) ∧ fs.map (·.1) = x.ns ∧ RepL Y G (fs.map (·.2)) x.xs)
theorem ExOk.mono {Y : Wd} {G G' : Hp} {x : Ex} {cls : Value} {dd : Option Addr} (s : Same G G') (h : ExOk Y G x cls dd) : ExOk Y G' x cls dd := by
  obtain ⟨h0, h1, h2 | ⟨da, fs, e1, e2, e3, e4⟩⟩ := h
  · exact ⟨h0, h1, .inl h2⟩
  · exact ⟨h0, h1, .inr ⟨da, fs, e1, s _ _ e2, e3, e4.mono s⟩⟩

section
variable {Y : Wd} {G R H : Hp} {σ : L2.St} {en : En}
theorem isOwnC_of {i : Nat} {ow : Ow} {d : D} (e : en[i]? = some (some (ow, d))) : isOwnC en[i]? = ow.isOwn := by rw [e]; rfl
theorem isOwnC_get {i : Nat} (e : isOwnC en[i]? = true) : ∃ ow d, en[i]? = some (some (ow, d)) ∧ ow.isOwn = true := by
  unfold isOwnC at e
  split at e
  · rename_i ow d h; exact ⟨ow, d, h, e⟩
  · cases e
/-- a new thing, not yet shared -/
theorem Sep.new {p : Addr} {o : HO} (S : Sep Y G R H σ en) (h : H p = none) : Sep Y G R (upd H p o) σ en :=
  ⟨S.gH.trans (same_new h), S.rH.trans (same_new h), S.gr, S.len, S.sh, fun i ow d e k => by
    obtain ⟨a, e1, g, r, t⟩ := S.own i ow d e k
    obtain ⟨o', e2, _⟩ := t.at
    exact ⟨a, e1, g, r, t.keep (Same.refl G) (upd_ne (ne_of_none e2 h))⟩, S.apart, S.tb.new h⟩
theorem Sep.gnone (S : Sep Y G R H σ en) {p : Addr} (h : H p = none) : G p = none := S.gH.free h
theorem Sep.rnone (S : Sep Y G R H σ en) {p : Addr} (h : H p = none) : R p = none := S.rH.free h
theorem Sep.freeNew (S : Sep Y G R H σ en) {p : Addr} (h : H p = none) : Free σ en p := fun i e z => by
  obtain ⟨ow, d, e1, e2⟩ := isOwnC_get e
  obtain ⟨a, e3, q⟩ := S.own i ow d e1 e2
  rw [e3] at z; cases z
  obtain ⟨o, h1, _⟩ := q.t.at
  rw [h] at h1; cases h1
/-- the shared part grows by what nobody owns -/
theorem Sep.share {p : Addr} {o : HO} (S : Sep Y G R H σ en) (h : H p = some o) (g : G p = none) (r : R p = none) (f : Free σ en p) (n : ∀ ps, o ≠ .tbl ps := by intro _ z; cases z) : Sep Y (upd G p o) R H σ en :=
  ⟨same_upd2 S.gH h, S.rH, fun a o' e => by
    rw [upd_ne (ne_of_none e r)]; exact S.gr a o' e, S.len, fun i ow d e k => by
    obtain ⟨v, e1, q⟩ := S.sh i ow d e k
    exact ⟨v, e1, q.mono (same_new g)⟩, fun i ow d e k => by
    obtain ⟨a, e1, g', r', t⟩ := S.own i ow d e k
    have ne : a ≠ p := fun z => f i (by rw [e]; exact k) (by rw [e1, z])
    exact ⟨a, e1, by rw [upd_ne ne]; exact g', r', t.keep (same_new g) rfl⟩, S.apart, S.tb.upG n⟩
theorem Sep.newG {p : Addr} {o : HO} (S : Sep Y G R H σ en) (h : H p = none) (n : ∀ ps, o ≠ .tbl ps := by intro _ z; cases z) : Sep Y (upd G p o) R (upd H p o) σ en :=
  (S.new h).share upd_same (S.gnone h) (S.rnone h) (S.freeNew h) n
/-- what is new may be reserved -/
theorem Sep.reserve {p : Addr} {o : HO} (S : Sep Y G R H σ en) (h : H p = some o) (g : G p = none) (f : Free σ en p) (n : ∀ ps, o ≠ .tbl ps := by intro _ z; cases z) : Sep Y G (upd R p o) H σ en :=
  ⟨S.gH, same_upd2 S.rH h, fun a o' e => by
    by_cases hb : a = p
    · rw [hb]; exact g
    · rw [upd_ne hb] at e; exact S.gr a o' e, S.len, S.sh, fun i ow d e k => by
    obtain ⟨a, e1, g', r', t⟩ := S.own i ow d e k
    have ne : a ≠ p := fun z => f i (by rw [e]; exact k) (by rw [e1, z])
    exact ⟨a, e1, g', by rw [upd_ne ne]; exact r', t⟩, S.apart, S.tb.upR n⟩
theorem Sep.lessR {R' : Hp} (S : Sep Y G R' H σ en) (s : Same R R') : Sep Y G R H σ en :=
  ⟨S.gH, s.trans S.rH, fun a o e => S.gr a o (s _ _ e), S.len, S.sh, fun i ow d e k => by
    obtain ⟨a, e1, g', r', t⟩ := S.own i ow d e k
    exact ⟨a, e1, g', s.free r', t⟩, S.apart, ⟨S.tb.t, S.tb.g, fun a ps z => S.tb.r a ps (s _ _ z)⟩⟩
/-- a reserved thing is written -/
theorem Sep.wrR {p : Addr} {o o' : HO} (S : Sep Y G R H σ en) (h : R p = some o) (m : isMut o = true) (n : ∀ ps, o' ≠ .tbl ps := by intro _ z; cases z) : Sep Y G (upd R p o') (upd H p o') σ en :=
  ⟨same_wr S.gH (S.gr _ _ h), same_upds S.rH, fun a x e => by
    by_cases hb : a = p
    · rw [hb]; exact S.gr _ _ h
    · rw [upd_ne hb] at e; exact S.gr a x e, S.len, S.sh, fun i ow d e k => by
    obtain ⟨a, e1, g', r', t⟩ := S.own i ow d e k
    have ne : a ≠ p := fun z => by rw [z, h] at r'; cases r'
    exact ⟨a, e1, g', by rw [upd_ne ne]; exact r', t.keep (Same.refl G) (upd_ne ne)⟩, S.apart, (S.tb.wr (S.rH _ _ h) m).upR n⟩

theorem get_set_same {i : Nat} {c : Cell} (h : i < en.length) : (en.set i c)[i]? = some c := List.getElem?_set_self h
theorem get_set_ne {i j : Nat} {c : Cell} (h : i ≠ j) : (en.set i c)[j]? = en[j]? := List.getElem?_set_ne h
theorem lt_of_get {α : Type} {l : List α} {i : Nat} {x : α} (e : l[i]? = some x) : i < l.length := (List.getElem?_eq_some_iff.mp e).1
/-- an owned slot is shared from now on -/
theorem Sep.shareS {i : Nat} {ow ow' : Ow} {d : D} (S : Sep Y G R H σ en) (e : en[i]? = some (some (ow, d))) (k : ow.isOwn = true) (k' : ow'.isOwn = false) :
    ∃ a o, σ[i]? = some (some (.ref a)) ∧ Same G (upd G a o) ∧ Rep Y (upd G a o) (.ref a) d ∧ Sep Y (upd G a o) R H σ (en.set i (some (ow', d))) := by
  obtain ⟨a, e1, g, r, t⟩ := S.own i ow d e k
  obtain ⟨o, e2, mo⟩ := t.at
  have sg : Same G (upd G a o) := same_new g
  have il := lt_of_get e
  have other : ∀ j, isOwnC (en.set i (some (ow', d)))[j]? = true → j ≠ i ∧ isOwnC en[j]? = true := fun j h => by
    by_cases hj : i = j
    · subst hj
      rw [get_set_same il] at h
      have : ow'.isOwn = true := h
      rw [k'] at this; cases this
    · rw [get_set_ne hj] at h; exact ⟨fun z => hj z.symm, h⟩
  refine ⟨a, o, e1, sg, t.rep sg e2, ⟨same_upd2 S.gH e2, S.rH, fun b o' z => ?_, by rw [List.length_set]; exact S.len, fun j w x hj hk => ?_, fun j w x hj hk => ?_, fun j l b h1 h2 q1 q2 => ?_, S.tb.upG (notT_mut mo)⟩⟩
  · rw [upd_ne (ne_of_none z r)]; exact S.gr b o' z
  · by_cases hij : i = j
    · subst hij
      rw [get_set_same il] at hj
      cases hj
      exact ⟨_, e1, t.rep sg e2⟩
    · rw [get_set_ne hij] at hj
      obtain ⟨v, q1, q2⟩ := S.sh j w x hj hk
      exact ⟨v, q1, q2.mono sg⟩
  · obtain ⟨nji, hown⟩ := other j (by rw [hj]; exact hk)
    rw [get_set_ne (Ne.symm nji)] at hj
    obtain ⟨b, q1, g', r', t'⟩ := S.own j w x hj hk
    have ne : b ≠ a := fun z => by
      rw [z] at q1
      exact nji (S.apart j i a hown (by rw [e]; exact k) q1 e1)
    exact ⟨b, q1, by rw [upd_ne ne]; exact g', r', t'.keep sg rfl⟩
  · exact S.apart j l b (other j h1).2 (other l h2).2 q1 q2
/-- a slot is forgotten -/
theorem Sep.drop {i : Nat} (S : Sep Y G R H σ en) : Sep Y G R H σ (en.set i none) := by
  have other : ∀ (j : Nat) (x : Ow × D), (en.set i none)[j]? = some (some x) → en[j]? = some (some x) := fun j x h => by
    by_cases hj : i = j
    · subst hj
      by_cases hl : i < en.length
      · rw [get_set_same hl] at h; cases h
      · rw [List.getElem?_eq_none (by rw [List.length_set]; omega)] at h; cases h
    · rw [get_set_ne hj] at h; exact h
  have other2 : ∀ j : Nat, isOwnC (en.set i none)[j]? = true → isOwnC en[j]? = true := fun j h => by
    obtain ⟨ow, d, e, k⟩ := isOwnC_get h
    rw [other j _ e]; exact k
  exact ⟨S.gH, S.rH, S.gr, by rw [List.length_set]; exact S.len, fun j w x hj hk => S.sh j w x (other j _ hj) hk, fun j w x hj hk => S.own j w x (other j _ hj) hk, fun j l b h1 h2 => S.apart j l b (other2 j h1) (other2 l h2), S.tb⟩
/-- a slot is stored: shared or owned -/
theorem Sep.store {i : Nat} {v : V} {d : D} {own : Bool} (S : Sep Y G R H σ en) (hi : i < en.length) (q : Vok Y G R H σ en v d own) :
    Sep Y G R H (σ.set i (some v)) (en.set i (some (if own then .own else .sh, d))) := by
  have il : i < σ.length := by rw [S.len]; exact hi
  have at_ : (en.set i (some (if own then Ow.own else Ow.sh, d)))[i]? = some (some (if own then Ow.own else Ow.sh, d)) := get_set_same hi
  have sne : ∀ {j : Nat}, i ≠ j → (σ.set i (some v))[j]? = σ[j]? := fun h => List.getElem?_set_ne h
  have sat : (σ.set i (some v))[i]? = some (some v) := List.getElem?_set_self il
  refine ⟨S.gH, S.rH, S.gr, by simp [S.len], fun j w x hj hk => ?_, fun j w x hj hk => ?_, fun j l b h1 h2 q1 q2 => ?_, S.tb⟩
  · by_cases hij : i = j
    · subst hij
      rw [at_] at hj; cases hj
      cases own with
      | true => cases hk
      | false => exact ⟨v, sat, q⟩
    · rw [get_set_ne hij] at hj; rw [sne hij]; exact S.sh j w x hj hk
  · by_cases hij : i = j
    · subst hij
      rw [at_] at hj; cases hj
      cases own with
      | false => cases hk
      | true =>
        obtain ⟨a, rfl, o, f⟩ := q
        exact ⟨a, sat, o⟩
    · rw [get_set_ne hij] at hj; rw [sne hij]; exact S.own j w x hj hk
  · by_cases hij : i = j
    · by_cases hil : i = l
      · rw [← hij, ← hil]
      · subst hij
        rw [at_] at h1; rw [get_set_ne hil] at h2; rw [sat] at q1; rw [sne hil] at q2
        cases own with
        | false => cases h1
        | true =>
          obtain ⟨a, rfl, o, f⟩ := q
          cases q1
          exact absurd q2 (f l h2)
    · by_cases hil : i = l
      · subst hil
        rw [at_] at h2; rw [get_set_ne hij] at h1; rw [sat] at q2; rw [sne hij] at q1
        cases own with
        | false => cases h2
        | true =>
          obtain ⟨a, rfl, o, f⟩ := q
          cases q2
          exact absurd q1 (f j h1)
      · rw [get_set_ne hij] at h1; rw [get_set_ne hil] at h2; rw [sne hij] at q1; rw [sne hil] at q2
        exact S.apart j l b h1 h2 q1 q2
/-- the thing of an owned slot is written -/
theorem Sep.write {i : Nat} {ow : Ow} {d d' : D} {a : Addr} {o' : HO} (S : Sep Y G R H σ en) (e : en[i]? = some (some (ow, d))) (k : ow.isOwn = true) (ea : σ[i]? = some (some (.ref a)))
    (t' : Top Y G (upd H a o') a d') : Sep Y G R (upd H a o') σ (en.set i (some (ow, d'))) := by
  obtain ⟨a', e1, g, r, t⟩ := S.own i ow d e k
  rw [ea] at e1; cases e1
  obtain ⟨o, e2, m⟩ := t.at
  have il := lt_of_get e
  have own2 : ∀ j : Nat, isOwnC (en.set i (some (ow, d')))[j]? = isOwnC en[j]? := fun j => by
    by_cases hj : i = j
    · subst hj; rw [get_set_same il, e]; rfl
    · rw [get_set_ne hj]
  refine ⟨same_wr S.gH g, same_wr S.rH r, S.gr, by rw [List.length_set]; exact S.len, fun j w x hj hk => ?_, fun j w x hj hk => ?_, fun j l b h1 h2 q1 q2 => ?_, S.tb.wr e2 m⟩
  · by_cases hij : i = j
    · subst hij
      rw [get_set_same il] at hj; cases hj
      rw [k] at hk; cases hk
    · rw [get_set_ne hij] at hj; exact S.sh j w x hj hk
  · by_cases hij : i = j
    · subst hij
      rw [get_set_same il] at hj; cases hj
      exact ⟨a, ea, g, r, t'⟩
    · rw [get_set_ne hij] at hj
      obtain ⟨b, q1, g', r', t2⟩ := S.own j w x hj hk
      have ne : b ≠ a := fun z => by
        rw [z] at q1
        exact hij (S.apart i j a (by rw [e]; exact k) (by rw [hj]; exact hk) ea q1)
      exact ⟨b, q1, g', r', t2.keep (Same.refl G) (upd_ne ne)⟩
  · rw [own2] at h1 h2
    exact S.apart j l b h1 h2 q1 q2
theorem Keep.setSame {i : Nat} {ow ow' : Ow} {d d' : D} (e : en[i]? = some (some (ow, d))) (h : ow'.isB = ow.isB) : Keep σ en σ (en.set i (some (ow', d'))) := fun j => by
  refine ⟨?_, fun _ => rfl⟩
  by_cases hij : i = j
  · subst hij
    rw [get_set_same (lt_of_get e), e]
    exact h
  · rw [get_set_ne hij]
theorem Keep.store {i : Nat} {c : Cell} {v : Option V} (e : isBC en[i]? = false) (h : isBC (some c) = false) : Keep σ en (σ.set i v) (en.set i c) := fun j => by
  by_cases hij : i = j
  · subst hij
    refine ⟨?_, fun z => by rw [e] at z; cases z⟩
    by_cases hl : i < en.length
    · rw [get_set_same hl, e]; exact h
    · rw [List.getElem?_eq_none (by rw [List.length_set]; omega), e]; rfl
  · exact ⟨by rw [get_set_ne hij], fun _ => List.getElem?_set_ne hij⟩
theorem Keep.drop {i : Nat} {c : Cell} (e : isBC en[i]? = false) (h : isBC (some c) = false) : Keep σ en σ (en.set i c) := fun j => by
  refine ⟨?_, fun _ => rfl⟩
  by_cases hij : i = j
  · subst hij
    by_cases hl : i < en.length
    · rw [get_set_same hl, e]; exact h
    · rw [List.getElem?_eq_none (by rw [List.length_set]; omega), e]; rfl
  · rw [get_set_ne hij]
end
end L3

/-! L3C: readings of the small language; composition. -/
namespace L3
open PySem PySem.Spec PyProof.Rows L2

theorem Rs.bind_assoc {α β γ : Type} (r : Rs α) (f : α → En → Rs β) (g : β → En → Rs γ) : (r.bind f).bind g = r.bind fun a en => (f a en).bind g := by
  cases r <;> rfl

/-- what is wanted behind an evaluation -/
def Pst (Y : Wd) (W : WX) {α β : Type} (ok : Hp → Hp → Hp → L2.St → En → α → β → Prop) (G R : Hp) (σ : L2.St) (en : En) (r : Rs α) (Q : β → Hp → Prop) : Prop := match r with
  | .ok a en' => ∀ b H' G', Same G G' → Keep σ en σ en' → Sep Y G' R H' σ en' → ok G' R H' σ en' a b → Q b H'
  | .er x en' => ∀ cls dd H' G', Same G G' → Keep σ en σ en' → Sep Y G' R H' σ en' → ExOk Y G' x cls dd → W cls dd σ H'
  | .bad => False
def okV (Y : Wd) : Hp → Hp → Hp → L2.St → En → D × Bool → V → Prop := fun G R H σ en p v => Vok Y G R H σ en v p.1 p.2
def okB : Hp → Hp → Hp → L2.St → En → Bool → Bool → Prop := fun _ _ _ _ _ a b => b = a
def Aok (Y : Wd) (G : Hp) (σ : L2.St) (en : En) (v : V) : Av → Prop
  | .v d => Rep Y G v d
  | .p i => σ[i]? = some (some v)
def AokL (Y : Wd) (G : Hp) (σ : L2.St) (en : En) : List V → List Av → Prop
  | [], [] => True
  | v :: vs, a :: as => Aok Y G σ en v a ∧ AokL Y G σ en vs as
  | _, _ => False
def okA (Y : Wd) : Hp → Hp → Hp → L2.St → En → Av → V → Prop := fun G _ _ σ en a v => Aok Y G σ en v a
def okL (Y : Wd) : Hp → Hp → Hp → L2.St → En → List Av → List V → Prop := fun G _ _ σ en as vs => AokL Y G σ en vs as
/-- a reading by an evaluation -/
def rd (Y : Wd) (W : WX) {α β : Type} (ok : Hp → Hp → Hp → L2.St → En → α → β → Prop) (ev : En → Rs α) : L2.St → Hp → (β → Hp → Prop) → Prop := fun σ H Q =>
  ∃ G R en, Sep Y G R H σ en ∧ Pst Y W ok G R σ en (ev en) Q

section
variable {Y : Wd} {W : WX} {α β γ δ : Type} {ok1 : Hp → Hp → Hp → L2.St → En → α → β → Prop} {ok2 : Hp → Hp → Hp → L2.St → En → γ → δ → Prop} {G R : Hp} {σ : L2.St} {en : En}
theorem Pst.weak {r : Rs α} {Q : β → Hp → Prop} {G' : Hp} {en1 : En} (h : Pst Y W ok1 G R σ en r Q) (s : Same G G') (k : Keep σ en σ en1) : Pst Y W ok1 G' R σ en1 r Q := by
  cases r with
  | ok a en' => exact fun b H' G'' s' k' => h b H' G'' (s.trans s') (k.trans k')
  | er x en' => exact fun c d H' G'' s' k' => h c d H' G'' (s.trans s') (k.trans k')
  | bad => exact h
theorem Pst.bind {r : Rs α} {f : α → En → Rs γ} {Q : δ → Hp → Prop} {Q1 : β → Hp → Prop} (h : Pst Y W ok2 G R σ en (r.bind f) Q)
    (k : ∀ a en' b H' G', r = .ok a en' → Same G G' → Keep σ en σ en' → Sep Y G' R H' σ en' → ok1 G' R H' σ en' a b → Pst Y W ok2 G' R σ en' (f a en') Q → Q1 b H') : Pst Y W ok1 G R σ en r Q1 := by
  cases r with
  | ok a en' =>
    intro b H' G' s kp S o
    exact k a en' b H' G' rfl s kp S o (Pst.weak (r := f a en') h s kp)
  | er x en' => exact h
  | bad => exact h
/-- go on from a state -/
theorem rd.mk {ev : En → Rs α} {Q : β → Hp → Prop} {H : Hp} (S : Sep Y G R H σ en) (h : Pst Y W ok1 G R σ en (ev en) Q) : rd Y W ok1 ev σ H Q := ⟨G, R, en, S, h⟩
end
theorem _root_.L2.PE.imp {X : Cx} {e : Expr} {t t' : TE} (h : PE X e t) (k : ∀ σ H Q, t' σ H Q → t σ H Q) : PE X e t' := ⟨fun p s σ H Q I q => h.run p s σ H Q I (k _ _ _ q)⟩
theorem _root_.L2.PT.imp {X : Cx} {e : Expr} {t t' : TT} (h : PT X e t) (k : ∀ σ H Q, t' σ H Q → t σ H Q) : PT X e t' := ⟨fun p s σ H Q I q => h.run p s σ H Q I (k _ _ _ q)⟩
theorem _root_.L2.PW.imp {X : Cx} {e : Expr} {t t' : TT} (h : PW X e t) (k : ∀ σ H Q, t' σ H Q → t σ H Q) : PW X e t' := ⟨fun wh p s σ H Q I q => h.run wh p s σ H Q I (k _ _ _ q)⟩
theorem _root_.L2.PA.imp {X : Cx} {es : List Expr} {t t' : TA} (h : PA X es t) (k : ∀ σ H Q, t' σ H Q → t σ H Q) : PA X es t' := ⟨fun pos p s σ H Q I q => h.run pos p s σ H Q I (k _ _ _ q)⟩
theorem _root_.L2.PS.imp {X : Cx} {st : Stmt} {t t' : TS} (h : PS X st t) (k : ∀ D σ H, t' D σ H → t D σ H) : PS X st t' := ⟨fun p s σ H D I q => h.run p s σ H D I (k _ _ _ q)⟩
theorem _root_.L2.PSs.imp {X : Cx} {st : List Stmt} {t t' : TS} (h : PSs X st t) (k : ∀ D σ H, t' D σ H → t D σ H) : PSs X st t' := ⟨fun p s σ H D I q => h.run p s σ H D I (k _ _ _ q)⟩

/-- what the evaluator runs with -/
structure Ev where
  w : Nat
  C : Nat → List (Bool × D) → CRes
  md : Nat → List Bool
abbrev rdE (Y : Wd) (W : WX) (V' : Ev) (m : E) : TE := rd Y W (okV Y) (evE V'.C V'.md m)
abbrev rdT (Y : Wd) (W : WX) (V' : Ev) (m : E) : TT := rd Y W okB fun en => toB (evE V'.C V'.md m en)
abbrev rdX (Y : Wd) (W : WX) (V' : Ev) (m : E) : TE := rd Y W (okA Y) fun en => argOf m (evE V'.C V'.md m en) en
abbrev rdA (Y : Wd) (W : WX) (V' : Ev) (ms : Es) : TA := rd Y W (okL Y) (evA V'.C V'.md ms)

section
variable {X : Cx} {Y : Wd} {W : WX} {U : Ev}
/-- a value that is looked at: shared, or a slot's own -/
def Pk (Y : Wd) (G H : Hp) (v : V) (d : D) : Prop := Rep Y G v d ∨ ∃ a, v = .ref a ∧ Top Y G H a d
def PkL (Y : Wd) (G H : Hp) : List V → List D → Prop
  | [], [] => True
  | v :: vs, d :: ds => Pk Y G H v d ∧ PkL Y G H vs ds
  | _, _ => False
theorem pk_of {G R H : Hp} {σ : L2.St} {en : En} (S : Sep Y G R H σ en) : ∀ {a : Av} {v : V} {d : D}, Aok Y G σ en v a → avD en a = some d → Pk Y G H v d
  | .v d', v, d, h, e => by cases e; exact .inl h
  | .p i, v, d, h, e => by
    simp only [avD] at e
    split at e
    · rename_i ow d' q
      cases e
      cases k : ow.isOwn with
      | true =>
        obtain ⟨a, e1, o⟩ := S.own i ow d q k
        have h : σ[i]? = some (some v) := h
        rw [e1] at h; cases h
        exact .inr ⟨a, rfl, o.t⟩
      | false =>
        obtain ⟨v', e1, o⟩ := S.sh i ow d q k
        have h : σ[i]? = some (some v) := h
        rw [e1] at h; cases h
        exact .inl o
    · cases e
theorem pkL_of {G R H : Hp} {σ : L2.St} {en : En} (S : Sep Y G R H σ en) : ∀ {as : List Av} {vs : List V} {ds : List D}, AokL Y G σ en vs as → avDs en as = some ds → PkL Y G H vs ds
  | [], [], ds, h, e => by cases e; trivial
  | a :: as, v :: vs, ds, h, e => by
    simp only [avDs] at e
    split at e
    · rename_i d ds' e1 e2
      cases e
      exact ⟨pk_of S h.1 e1, pkL_of S h.2 e2⟩
    · cases e
  | [], _ :: _, _, h, _ => h.elim
  | _ :: _, [], _, h, _ => h.elim
theorem Aok.mono {G G' : Hp} {σ : L2.St} {en en' : En} {v : V} {a : Av} (h : Aok Y G σ en v a) (s : Same G G') : Aok Y G' σ en' v a := by
  cases a with
  | v d => exact Rep.mono s h
  | p i => exact h
theorem AokL.mono {G G' : Hp} {σ : L2.St} {en en' : En} (s : Same G G') : ∀ {vs : List V} {as : List Av}, AokL Y G σ en vs as → AokL Y G' σ en' vs as
  | [], [], _ => trivial
  | _ :: _, _ :: _, h => ⟨h.1.mono s, AokL.mono s h.2⟩
  | [], _ :: _, h => h.elim
  | _ :: _, [], h => h.elim

/-- a told value may be shared -/
theorem Vok.share {G R H : Hp} {σ : L2.St} {en : En} {v : V} {d : D} {own : Bool} (S : Sep Y G R H σ en) (q : Vok Y G R H σ en v d own) : ∃ G', Same G G' ∧ Sep Y G' R H σ en ∧ Rep Y G' v d := by
  cases own with
  | false => exact ⟨G, Same.refl G, S, q⟩
  | true =>
    obtain ⟨a, rfl, o, f⟩ := q
    obtain ⟨u, e, mu⟩ := o.t.at
    exact ⟨upd G a u, same_new o.g, S.share e o.g o.r f (notT_mut mu), o.t.rep (same_new o.g) e⟩

/-! ### arguments -/
theorem x_of {e : Expr} {m : E} (h : PE X e (rdE Y W U m)) (hm : ∀ i, m ≠ .pk i) : PE X e (rdX Y W U m) := by
  refine h.imp fun σ H Q ⟨G, R, en, S, p⟩ => ⟨G, R, en, S, ?_⟩
  have p' : Pst Y W (okA Y) G R σ en ((evE U.C U.md m en).bind fun q en => .ok (.v q.1) en) Q := by
    cases m with
    | pk i => exact absurd rfl (hm i)
    | _ => exact p
  refine Pst.bind (f := fun (q : D × Bool) en => Rs.ok (Av.v q.1) en) p' fun q en' v H' G' _ s k S' o h' => ?_
  obtain ⟨G2, s2, S2, r2⟩ := Vok.share S' o
  exact h' v H' G2 s2 (Keep.refl _ _) S2 r2
theorem x_pk {i : Nat} {x : Str} {pos : Pos} (hN : X.N[i]? = some x := by rfl) (hv : Vis X.env.scope x := by first | exact Or.inl rfl | exact Or.inr (Or.inl rfl) | exact Or.inr (Or.inr rfl)) (hd : (x == ("__debug__" : Str)) = false := by decide)
    (hcd : (x == ("__classdict__" : Str)) = false := by decide) : PE X (.Name x pos) (rdX Y W U (.pk i)) := by
  refine (pe_var hN hv hd hcd).imp fun σ H Q ⟨G, R, en, S, p⟩ => ?_
  have p : Pst Y W (okA Y) G R σ en (match en[i]? with | some (some _) => .ok (.p i) en | _ => .bad) Q := p
  split at p
  · rename_i c e
    obtain ⟨ow, d⟩ := c
    have : ∃ v, σ[i]? = some (some v) := by
      cases k : ow.isOwn with
      | true => obtain ⟨a, e1, _⟩ := S.own i ow d e k; exact ⟨_, e1⟩
      | false => obtain ⟨v, e1, _⟩ := S.sh i ow d e k; exact ⟨_, e1⟩
    obtain ⟨v, e1⟩ := this
    exact ⟨v, e1, p v H G (Same.refl _) (Keep.refl _ _) S e1⟩
  · exact p.elim
theorem a_nil : PA X [] (rdA Y W U .nil) := pa_nil.imp fun σ H Q ⟨G, R, en, S, p⟩ => p [] H G (Same.refl _) (Keep.refl _ _) S trivial
theorem evA_cons (C : Nat → List (Bool × D) → CRes) (md : Nat → List Bool) (e : E) (es : Es) (en : En) :
    evA C md (.cons e es) en = (argOf e (evE C md e en) en).bind fun a en => (evA C md es en).bind fun as en => .ok (a :: as) en := by
  rw [evA]
theorem a_cons {e : Expr} {es : List Expr} {m : E} {ms : Es} (h1 : PE X e (rdX Y W U m)) (h2 : PA X es (rdA Y W U ms)) (hs : starEach (e :: es) X.env = (false, eval e X.env) :: starEach es X.env := by rfl) :
    PA X (e :: es) (rdA Y W U (.cons m ms)) := by
  refine (pa_cons h1 h2 hs).imp fun σ H Q ⟨G, R, en, S, p⟩ => ⟨G, R, en, S, ?_⟩
  rw [evA_cons] at p
  refine Pst.bind p fun a en' v H' G' _ s k S' o p' => rd.mk S' (Pst.bind p' fun as en2 vs H2 G2 _ s2 k2 S2 o2 p2 => ?_)
  exact p2 (v :: vs) H2 G2 (Same.refl _) (Keep.refl _ _) S2 ⟨o.mono s2, o2⟩

/-! ### operations -/
theorem evE_op (C : Nat → List (Bool × D) → CRes) (md : Nat → List Bool) (o : Op) (as : Es) (en : En) : evE C md (.op o as) en = (evA C md as en).bind (opFin o) := by
  rw [evE]
theorem evE_op1 (C : Nat → List (Bool × D) → CRes) (md : Nat → List Bool) (o : Op) (a : E) (en : En) :
    evE C md (.op o (.cons a .nil)) en = (argOf a (evE C md a en) en).bind fun x en => opFin o [x] en := by
  rw [evE_op, evA_cons, Rs.bind_assoc]; rfl
theorem evE_op2 (C : Nat → List (Bool × D) → CRes) (md : Nat → List Bool) (o : Op) (a b : E) (en : En) :
    evE C md (.op o (.cons a (.cons b .nil))) en = (argOf a (evE C md a en) en).bind fun x en => (argOf b (evE C md b en) en).bind fun y en => opFin o [x, y] en := by
  rw [evE_op, evA_cons, Rs.bind_assoc]
  congr 1; funext x en
  rw [evA_cons, Rs.bind_assoc, Rs.bind_assoc]; rfl
/-- the operation keeps its promise: r is what HandS asks -/
def PrimN (Y : Wd) (W : WX) (o : Op) (r : List V → Hp → VK → Prop) : Prop := ∀ (G R H : Hp) (σ : L2.St) (en : En) (vs : List V) (ds : List D) (p : D × Bool) (Q : VK), Sep Y G R H σ en → PkL Y G H vs ds → o.run ds = some p →
  Pst Y W (okV Y) G R σ en (.ok p en) Q → r vs H Q
theorem repL_of {G : Hp} {σ : L2.St} {en : En} : ∀ {as : List Av} {vs : List V} {ds : List D}, AokL Y G σ en vs as → vDs as = some ds → RepL Y G vs ds
  | [], [], ds, h, e => by cases e; exact .nil
  | .v d :: as, v :: vs, ds, h, e => by
    simp only [vDs] at e
    split at e
    · rename_i ds' e2
      cases e
      exact .cons h.1 (repL_of h.2 e2)
    · cases e
  | .p _ :: as, v :: vs, ds, h, e => by cases e
  | [], _ :: _, _, h, _ => h.elim
  | _ :: _, [], _, h, _ => h.elim
/-- .. whose arguments it keeps -/
def PrimK (Y : Wd) (W : WX) (o : Op) (r : List V → Hp → VK → Prop) : Prop := ∀ (G R H : Hp) (σ : L2.St) (en : En) (vs : List V) (ds : List D) (p : D × Bool) (Q : VK), Sep Y G R H σ en → RepL Y G vs ds → o.run ds = some p →
  Pst Y W (okV Y) G R σ en (.ok p en) Q → r vs H Q
theorem prim_fin {o : Op} {r : List V → Hp → VK → Prop} (h : PrimN Y W o r) {G R H : Hp} {σ : L2.St} {en : En} {avs : List Av} {vs : List V} {Q : VK} (S : Sep Y G R H σ en) (a : AokL Y G σ en vs avs)
    (p : Pst Y W (okV Y) G R σ en (opFin o avs en) Q) (hk : o.keeps = false := by rfl) : r vs H Q := by
  unfold opFin at p
  rw [hk] at p
  split at p
  · exact p.elim
  · rename_i ds e
    split at p
    · rename_i q e2
      exact h G R H σ en vs ds q Q S (pkL_of S a e) e2 p
    · exact p.elim
theorem prim_finK {o : Op} {r : List V → Hp → VK → Prop} (h : PrimK Y W o r) {G R H : Hp} {σ : L2.St} {en : En} {avs : List Av} {vs : List V} {Q : VK} (S : Sep Y G R H σ en) (a : AokL Y G σ en vs avs)
    (p : Pst Y W (okV Y) G R σ en (opFin o avs en) Q) (hk : o.keeps = true := by rfl) : r vs H Q := by
  unfold opFin at p
  rw [hk] at p
  split at p
  · exact p.elim
  · rename_i ds e
    split at p
    · rename_i q e2
      exact h G R H σ en vs ds q Q S (repL_of a e) e2 p
    · exact p.elim
theorem s_bin {o : Op} {op : Operator} {r : R2} {a b : Expr} {a' b' : E} {pos : Pos} (ho : OpR X (binaryOp op) r) (hk : o.keeps = false) (h : PrimN Y W o fun vs H Q => ∀ x y, vs = [x, y] → r x y H Q) (ha : PE X a (rdX Y W U a')) (hb : PE X b (rdX Y W U b')) :
    PE X (.BinOp a op b pos) (rdE Y W U (.op o (.cons a' (.cons b' .nil)))) := by
  refine (pe_op ho ha hb).imp fun σ H Q ⟨G, R, en, S, p⟩ => ⟨G, R, en, S, ?_⟩
  rw [evE_op2] at p
  refine Pst.bind p fun x en1 v H1 G1 _ s1 k1 S1 o1 p1 => rd.mk S1 (Pst.bind p1 fun y en2 u H2 G2 _ s2 k2 S2 o2 p2 => ?_)
  exact prim_fin h S2 (vs := [v, u]) (avs := [x, y]) ⟨Aok.mono o1 s2, o2, trivial⟩ p2 hk v u rfl
theorem s_un {o : Op} {op : UnaryOp} {r : V → Hp → VK → Prop} {a : Expr} {a' : E} {pos : Pos} (ho : UnR X (unaryOp op) r) (hk : o.keeps = false) (h : PrimN Y W o fun vs H Q => ∀ x, vs = [x] → r x H Q) (ha : PE X a (rdX Y W U a')) :
    PE X (.UnaryOp op a pos) (rdE Y W U (.op o (.cons a' .nil))) := by
  refine (pe_un ho ha).imp fun σ H Q ⟨G, R, en, S, p⟩ => ⟨G, R, en, S, ?_⟩
  rw [evE_op1] at p
  refine Pst.bind p fun x en1 v H1 G1 _ s1 k1 S1 o1 p1 => ?_
  exact prim_fin h S1 (vs := [v]) (avs := [x]) ⟨o1, trivial⟩ p1 hk v rfl
theorem s_cmp {o : Op} {op : CmpOp} {r : R2} {a b : Expr} {a' b' : E} {pos : Pos} (ho : OpR X (compareOp op) r) (hk : o.keeps = false) (h : PrimN Y W o fun vs H Q => ∀ x y, vs = [x, y] → r x y H Q) (ha : PE X a (rdX Y W U a')) (hb : PE X b (rdX Y W U b')) (hm : behindInMarks op b = false) :
    PE X (.Compare a [op] [b] pos) (rdE Y W U (.op o (.cons a' (.cons b' .nil)))) := by
  refine (pe_cmpR ho ha hb hm).imp fun σ H Q ⟨G, R, en, S, p⟩ => ⟨G, R, en, S, ?_⟩
  rw [evE_op2] at p
  refine Pst.bind p fun x en1 v H1 G1 _ s1 k1 S1 o1 p1 => rd.mk S1 (Pst.bind p1 fun y en2 u H2 G2 _ s2 k2 S2 o2 p2 => ?_)
  exact prim_fin h S2 (vs := [v, u]) (avs := [x, y]) ⟨Aok.mono o1 s2, o2, trivial⟩ p2 hk v u rfl
/-- a value that is a truth -/
theorem toB_fin {G R : Hp} {σ : L2.St} {en : En} {p : D × Bool} {Q : Bool → Hp → Prop} {v : V} {H' : Hp} {G' : Hp} (s : Same G G') {en' : En} (k : Keep σ en σ en') (S : Sep Y G' R H' σ en') (o : Vok Y G' R H' σ en' v p.1 p.2)
    (h : Pst Y W okB G R σ en (match p.1 with | .bl b => .ok b en' | _ => .bad) Q) : ∃ c, v = .bl c ∧ Q c H' := by
  obtain ⟨d, own⟩ := p
  cases d with
  | bl b =>
    cases own with
    | false =>
      have o : Rep Y G' v (.bl b) := o
      cases o
      exact ⟨b, rfl, h b H' G' s k S rfl⟩
    | true =>
      obtain ⟨a, _, ⟨_, _, t⟩, _⟩ := o
      cases t
  | _ => exact h.elim
theorem toB_bind {G R : Hp} {σ : L2.St} {en : En} {r : Rs (D × Bool)} {Q : Bool → Hp → Prop} (h : Pst Y W okB G R σ en (toB r) Q) : Pst Y W (okV Y) G R σ en r fun v H1 => ∃ c, v = .bl c ∧ Q c H1 := by
  unfold toB at h
  exact Pst.bind h fun p en1 v H1 G1 _ s k S o p1 => toB_fin (Same.refl _) (Keep.refl _ _) S o p1
theorem s_cmpT {o : Op} {op : CmpOp} {r : R2} {a b : Expr} {a' b' : E} {pos : Pos} (ho : OpR X (compareOp op) r) (hk : o.keeps = false) (h : PrimN Y W o fun vs H Q => ∀ x y, vs = [x, y] → r x y H Q) (ha : PE X a (rdX Y W U a')) (hb : PE X b (rdX Y W U b')) (hm : behindInMarks op b = false) :
    PT X (.Compare a [op] [b] pos) (rdT Y W U (.op o (.cons a' (.cons b' .nil)))) := by
  refine (pt_cmpR ho ha hb hm).imp fun σ H Q ⟨G, R, en, S, p⟩ => ⟨G, R, en, S, ?_⟩
  have p := toB_bind p
  rw [evE_op2] at p
  refine Pst.bind p fun x en1 v H1 G1 _ s1 k1 S1 o1 p1 => rd.mk S1 (Pst.bind p1 fun y en2 u H2 G2 _ s2 k2 S2 o2 p2 => ?_)
  exact prim_fin h S2 (vs := [v, u]) (avs := [x, y]) ⟨Aok.mono o1 s2, o2, trivial⟩ p2 hk v u rfl
/-- an expression as a test -/
theorem t_of {e : Expr} {m : E} (h : PE X e (rdE Y W U m)) (he : ∀ whole, isTrue e X.env whole = (do let v ← whole; standAt e.pos; holding [v] (truthy v)) := by intro _; rfl) : PT X e (rdT Y W U m) :=
  (pt_val h he).imp fun _ _ _ ⟨G, R, en, S, p⟩ => ⟨G, R, en, S, toB_bind p⟩
/-! ### and, or, not, if -/
theorem toB_and (C : Nat → List (Bool × D) → CRes) (md : Nat → List Bool) (a b : E) (en : En) :
    toB (evE C md (.and a b) en) = (toB (evE C md a en)).bind fun k en => if k = true then toB (evE C md b en) else .ok false en := by
  rw [evE]
  generalize toB (evE C md a en) = r
  cases r with
  | ok k en => cases k <;> rfl
  | er x en => rfl
  | bad => rfl
theorem toB_or (C : Nat → List (Bool × D) → CRes) (md : Nat → List Bool) (a b : E) (en : En) :
    toB (evE C md (.or a b) en) = (toB (evE C md a en)).bind fun k en => if k = true then .ok true en else toB (evE C md b en) := by
  rw [evE]
  generalize toB (evE C md a en) = r
  cases r with
  | ok k en => cases k <;> rfl
  | er x en => rfl
  | bad => rfl
variable {a b c : Expr} {a' b' c' : E} {rest : List Expr} {pos : Pos}
theorem w_and1 (ha : PT X a (rdT Y W U a')) : PW X (.BoolOp .And [a] pos) (rdT Y W U a') := pw_and1 ha
theorem w_or1 (ha : PT X a (rdT Y W U a')) : PW X (.BoolOp .Or [a] pos) (rdT Y W U a') := pw_or1 ha
theorem w_and (ha : PT X a (rdT Y W U a')) (hb : PW X (.BoolOp .And (b :: rest) pos) (rdT Y W U b')) : PW X (.BoolOp .And (a :: b :: rest) pos) (rdT Y W U (.and a' b')) := by
  refine (pw_and ha hb).imp fun σ H Q ⟨G, R, en, S, p⟩ => ⟨G, R, en, S, ?_⟩
  dsimp only at p
  rw [toB_and] at p
  refine Pst.bind p fun k en1 v H1 G1 _ s1 k1 S1 o1 p1 => ?_
  cases (show v = k from o1)
  cases k with
  | true => exact rd.mk S1 p1
  | false => exact p1 false H1 G1 (Same.refl _) (Keep.refl _ _) S1 rfl
theorem w_or (ha : PT X a (rdT Y W U a')) (hb : PW X (.BoolOp .Or (b :: rest) pos) (rdT Y W U b')) : PW X (.BoolOp .Or (a :: b :: rest) pos) (rdT Y W U (.or a' b')) := by
  refine (pw_or ha hb).imp fun σ H Q ⟨G, R, en, S, p⟩ => ⟨G, R, en, S, ?_⟩
  dsimp only at p
  rw [toB_or] at p
  refine Pst.bind p fun k en1 v H1 G1 _ s1 k1 S1 o1 p1 => ?_
  cases (show v = k from o1)
  cases k with
  | true => exact p1 true H1 G1 (Same.refl _) (Keep.refl _ _) S1 rfl
  | false => exact rd.mk S1 p1
theorem s_and1 (ha : PE X a (rdE Y W U a')) : PE X (.BoolOp .And [a] pos) (rdE Y W U a') := pe_one ha
theorem s_or1 (ha : PE X a (rdE Y W U a')) : PE X (.BoolOp .Or [a] pos) (rdE Y W U a') := pe_one ha
theorem s_and (ha : PE X a (rdE Y W U a')) (hb : PE X (.BoolOp .And (b :: rest) pos) (rdE Y W U b')) : PE X (.BoolOp .And (a :: b :: rest) pos) (rdE Y W U (.and a' b')) := by
  refine (pe_and ha hb).imp fun σ H Q ⟨G, R, en, S, p⟩ => ⟨G, R, en, S, ?_⟩
  rw [evE, toB, Rs.bind_assoc] at p
  refine Pst.bind p fun q en1 v H1 G1 _ s1 k1 S1 o1 p1 => ?_
  obtain ⟨d, own⟩ := q
  cases d with
  | bl k =>
    have ev : v = .bl k := by
      cases own with
      | false => have o1 : Rep Y G1 v (.bl k) := o1; cases o1; rfl
      | true => obtain ⟨a, _, ⟨_, _, t⟩, _⟩ := o1; cases t
    refine ⟨k, ev, ?_⟩
    cases k with
    | true => exact rd.mk S1 p1
    | false => exact p1 (.bl false) H1 G1 (Same.refl _) (Keep.refl _ _) S1 (.bl false)
  | _ => exact p1.elim
theorem s_or (ha : PE X a (rdE Y W U a')) (hb : PE X (.BoolOp .Or (b :: rest) pos) (rdE Y W U b')) : PE X (.BoolOp .Or (a :: b :: rest) pos) (rdE Y W U (.or a' b')) := by
  refine (pe_or ha hb).imp fun σ H Q ⟨G, R, en, S, p⟩ => ⟨G, R, en, S, ?_⟩
  rw [evE, toB, Rs.bind_assoc] at p
  refine Pst.bind p fun q en1 v H1 G1 _ s1 k1 S1 o1 p1 => ?_
  obtain ⟨d, own⟩ := q
  cases d with
  | bl k =>
    have ev : v = .bl k := by
      cases own with
      | false => have o1 : Rep Y G1 v (.bl k) := o1; cases o1; rfl
      | true => obtain ⟨a, _, ⟨_, _, t⟩, _⟩ := o1; cases t
    refine ⟨k, ev, ?_⟩
    cases k with
    | true => exact p1 (.bl true) H1 G1 (Same.refl _) (Keep.refl _ _) S1 (.bl true)
    | false => exact rd.mk S1 p1
  | _ => exact p1.elim
theorem s_ite (hc : PT X c (rdT Y W U c')) (ha : PE X a (rdE Y W U a')) (hb : PE X b (rdE Y W U b')) : PE X (.IfExp c a b pos) (rdE Y W U (.ite c' a' b')) := by
  refine (pe_ifExp hc ha hb).imp fun σ H Q ⟨G, R, en, S, p⟩ => ⟨G, R, en, S, ?_⟩
  rw [evE] at p
  refine Pst.bind p fun k en1 v H1 G1 _ s1 k1 S1 o1 p1 => ?_
  cases (show v = k from o1)
  cases k with
  | true => exact rd.mk S1 p1
  | false => exact rd.mk S1 p1
/-! ### names and constants -/
theorem isBC_of {en : En} {i : Nat} {ow : Ow} {d : D} (e : en[i]? = some (some (ow, d))) : isBC en[i]? = ow.isB := by rw [e]; rfl
theorem rdVar_ok {i : Nat} {G R H : Hp} {σ : L2.St} {en : En} {Q : VK} (S : Sep Y G R H σ en) (p : Pst Y W (okV Y) G R σ en (rdVar i en) Q) : ∃ v, σ[i]? = some (some v) ∧ Q v H := by
  unfold rdVar at p
  split at p
  · rename_i d e
    obtain ⟨v, e1, r⟩ := S.sh i .sh d e rfl
    exact ⟨v, e1, p v H G (Same.refl _) (Keep.refl _ _) S r⟩
  · rename_i d e
    obtain ⟨v, e1, r⟩ := S.sh i .brs d e rfl
    exact ⟨v, e1, p v H G (Same.refl _) (Keep.refl _ _) S r⟩
  · rename_i d e
    obtain ⟨a, o, e1, s, r, S'⟩ := S.shareS (ow' := .sh) e rfl rfl
    exact ⟨_, e1, p _ H _ s (Keep.setSame e rfl) S' r⟩
  · rename_i d e
    obtain ⟨a, o, e1, s, r, S'⟩ := S.shareS (ow' := .brs) e rfl rfl
    exact ⟨_, e1, p _ H _ s (Keep.setSame e rfl) S' r⟩
  · exact p.elim
theorem s_var {i : Nat} {x : Str} {pos : Pos} (hN : X.N[i]? = some x := by rfl) (hv : Vis X.env.scope x := by first | exact Or.inl rfl | exact Or.inr (Or.inl rfl) | exact Or.inr (Or.inr rfl)) (hd : (x == ("__debug__" : Str)) = false := by decide)
    (hcd : (x == ("__classdict__" : Str)) = false := by decide) : PE X (.Name x pos) (rdE Y W U (.var i)) := by
  refine (pe_var hN hv hd hcd).imp fun σ H Q ⟨G, R, en, S, p⟩ => ?_
  rw [evE] at p
  exact rdVar_ok S p
theorem s_mv {i : Nat} {x : Str} {pos : Pos} (hN : X.N[i]? = some x := by rfl) (hv : Vis X.env.scope x := by first | exact Or.inl rfl | exact Or.inr (Or.inl rfl) | exact Or.inr (Or.inr rfl)) (hd : (x == ("__debug__" : Str)) = false := by decide)
    (hcd : (x == ("__classdict__" : Str)) = false := by decide) : PE X (.Name x pos) (rdE Y W U (.mv i)) := by
  refine (pe_var hN hv hd hcd).imp fun σ H Q ⟨G, R, en, S, p⟩ => ?_
  rw [evE, mvVar] at p
  split at p
  · rename_i d e
    obtain ⟨a, e1, o⟩ := S.own i .own d e rfl
    refine ⟨_, e1, p _ H G (Same.refl _) (Keep.drop (by rw [e]; rfl) rfl) S.drop ⟨a, rfl, o, fun j hj z => ?_⟩⟩
    have il := lt_of_get e
    by_cases hij : i = j
    · subst hij; rw [get_set_same il] at hj; cases hj
    · rw [get_set_ne hij] at hj
      exact hij (S.apart i j a (by rw [e]; rfl) hj e1 z)
  · exact rdVar_ok S p
theorem s_const {e : Expr} {v : V} {d : D} (h : PE X e (tC v)) (r : ∀ G, Rep Y G v d) : PE X e (rdE Y W U (.cst d)) := by
  refine h.imp fun σ H Q ⟨G, R, en, S, p⟩ => ?_
  rw [evE] at p
  exact p v H G (Same.refl _) (Keep.refl _ _) S (r G)
theorem s_int {i : Int} {j : Nat} {pos : Pos} : PE X (.Constant (.int i) j pos) (rdE Y W U (.cst (.int i))) := s_const pe_int fun _ => .int i
theorem s_bl {i : Bool} {j : Nat} {pos : Pos} : PE X (.Constant (.bool i) j pos) (rdE Y W U (.cst (.bl i))) := s_const pe_bl fun _ => .bl i
theorem s_non {j : Nat} {pos : Pos} : PE X (.Constant .none j pos) (rdE Y W U (.cst .non)) := s_const pe_non fun _ => .non
theorem s_str {i : Str} {j : Nat} {pos : Pos} : PE X (.Constant (.str i) j pos) (rdE Y W U (.cst (.str i))) := s_const pe_str fun _ => .str i
/-- a constant of the module -/
theorem s_glb {x : Str} {v : V} {u : Value} {d : D} {pos : Pos} (hg : Gl X x) (hm : X.mg x = some u) (r : RelV v u) (q : ∀ G, Rep Y G v d) (hd : (x == ("__debug__" : Str)) = false := by decide) : PE X (.Name x pos) (rdE Y W U (.op (.glb d) .nil)) := by
  refine (pe_glob hg hm r hd).imp fun σ H Q ⟨G, R, en, S, p⟩ => ?_
  rw [evE_op, evA] at p
  exact p v H G (Same.refl _) (Keep.refl _ _) S (q G)
end
end L3

/-! L3Y: enumerate(t), max(t) of a tuple. -/
namespace HT
open PySem PySem.Spec PySem.Calls PyProof.Rows L2
theorem meets_enum1 {v : Value} {o : Obj} {H : Heap → Prop} (B : Begins v o H) :
    Meets (Builtin.«enumerate.__new__» ⟨[.type "enumerate", v], []⟩) (fun _ R s => H s.heap ∧
      R (.ok (.ret (.ref (s.heap.push o).objs.size))) { s with heap := (s.heap.push o).push { cls := .type "enumerate", data := .fields #[.none, .bool false, .ref s.heap.objs.size, rawInt 0, .none, .none] } }) :=
  .of_wp fun prog w A R s h => by
    obtain ⟨hp, g, d, tk, os⟩ := s; obtain ⟨h1, h⟩ := h
    have hsub := sub_enumerate
    have q1 : ∀ {A' : Around} {E : Value → Shared → Prop} {Q : Value → Shared → Prop}, Q (.ref hp.objs.size) ⟨hp.push o, g, d, tk, os⟩ → wpAny (model prog w) A' (pyIter v) Q E ⟨hp, g, d, tk, os⟩ :=
      fun q => B.iter prog w _ _ ⟨hp, g, d, tk, os⟩ _ h1 q
    wp_walk using q1
    refine wpAny_stack_any fun st => wpAny_pure ?_
    split
    · rename_i c _ _ _ _ _
      cases (c == Value.type "enumerate")
      · wp_walk using q1
        exact ⟨_, rfl, h⟩
      · wp_walk using q1
        exact ⟨_, rfl, h⟩
    · wp_walk using q1
      exact ⟨_, rfl, h⟩
section
variable {prog : Program} {w : World} {A : Around} {E : Value → Shared → Prop} {s : Shared}
theorem enum1_begins {v : Value} {o : Obj} {H : Heap → Prop} {Q : Value → Shared → Prop} (B : Begins v o H) (h1 : H s.heap)
    (h : ∀ h', IsEnum h' (s.heap.objs.size + 1) s.heap.objs.size 0 .none → h'.get? s.heap.objs.size = some o → h'.objs.size = s.heap.objs.size + 2 →
      (∀ b o, s.heap.get? b = some o → h'.get? b = some o) → Q (.ref (s.heap.objs.size + 1)) { s with heap := h' }) :
    wpAny (model prog w) A (call (.type "enumerate") [v]) Q E s := by
  refine callType_new F.called_enumerate (by decide) (F.typeCall_enumerate_1 _) (F.newCall_enumerate_1 _) (fun obj => F.args_object_init_2 obj _) F.entry_enumerate_new
    (meets_enum1 B) ⟨h1, ?_⟩
  have hz : (s.heap.push o).objs.size = s.heap.objs.size + 1 := Heap.size_push ..
  show _ ∧ _
  rw [hz]
  have he : IsEnum ((s.heap.push o).push { cls := .type "enumerate", data := .fields #[.none, .bool false, .ref s.heap.objs.size, rawInt 0, .none, .none] }) (s.heap.objs.size + 1) s.heap.objs.size 0 .none := by
    have := Heap.get?_push_size (s.heap.push o) (o := { cls := .type "enumerate", data := .fields #[.none, .bool false, .ref s.heap.objs.size, rawInt 0, .none, .none] }) rfl
    rw [hz] at this; exact this
  exact ⟨⟨_, he, rfl⟩, h _ he (Heap.get?_push_of_some _ (Heap.get?_push_size _ B.free)) (by rw [Heap.size_push, hz]) fun b o x => Heap.get?_push_of_some _ (Heap.get?_push_of_some _ x)⟩
theorem max_intTup {l : Addr} {xs : Array (Int × Tok)} {Q : Value → Shared → Prop} (hh : A.handled = none) (hl : s.heap.IsTuple l (intItems xs)) (hne : 0 < xs.size)
    (h : ∀ v h' tk, (intItems xs)[argBest (fun i j => decide (numAt xs i > numAt xs j)) (xs.size - 1)]? = some v → (∀ b o, s.heap.get? b = some o → h'.get? b = some o) → Q v { s with heap := h', toks := tk }) :
    wpAny (model prog w) A (call (.builtin "max") [.ref l]) Q E s := by
  have hlt : l < s.heap.objs.size := by obtain ⟨_, e, _⟩ := hl; exact Heap.lt_size e
  refine call_max_walk (wpAny_pyIter_tuple hl ?_)
  refine ⟨_, _, _, _, _, _, _, rfl, Walks.tuple (A := A.in1) hh _ l (Nat.ne_of_lt hlt) (intItems xs), ⟨⟨_, Heap.get?_push_size _ rfl, rfl, rfl⟩, hl.push _⟩, fun b hb => ?_, by simpa [intItems] using hne, CmpOf.ints_gt (numAt xs) (fun _ _ => intItems_at), fun v h' tk hP hk => ?_⟩
  · show b < (s.heap.push _).objs.size
    rw [Heap.size_push]
    rcases List.mem_cons.mp hb with e | hb
    · rw [e]; exact Nat.lt_succ_self _
    · rw [List.mem_singleton.mp hb]; exact Nat.lt_succ_of_lt hlt
  · refine h v h' tk (by simpa [intItems] using hP) fun b o e => hk b o (fun hm => ?_) (Heap.get?_push_of_some _ e)
    rw [List.mem_singleton.mp hm] at e
    exact absurd (Heap.lt_size e) (Nat.lt_irrefl _)
theorem maxT_raw {l : Addr} {its : List Value} {ns : List Int} {Q : Value → Shared → Prop} (hh : A.handled = none) (hl : s.heap.IsTuple l its.toArray) (hi : IntsAre its ns) (hne : 0 < ns.length)
    (h : ∀ h' tk M t', (∀ b o, s.heap.get? b = some o → h'.get? b = some o) → M ∈ ns → (∀ a, a ∈ ns → a ≤ M) → Q (.int M t') { s with heap := h', toks := tk }) : wpAny (model prog w) A (call (.builtin "max") [.ref l]) Q E s := by
  obtain ⟨xs, e⟩ := hi.allInts.items
  have hn : numsOf (intItems xs).toList = ns := by rw [← e]; exact hi.numsOf
  rw [nums_intItems] at hn
  subst hn
  rw [e] at hl
  have hsz : 0 < xs.size := by simpa using hne
  refine max_intTup hh hl hsz fun v h' tk hv hk => ?_
  obtain ⟨t, rfl⟩ := intItems_at hv
  obtain ⟨h1, h2⟩ := argBest_gt (numAt xs) (xs.size - 1)
  refine h h' tk _ t hk ?_ fun a ha => ?_
  · rw [numAt_eq]; exact PySem.getD_mem (by rw [List.length_map, Array.length_toList]; omega)
  · obtain ⟨j, hj, rfl⟩ := mem_getD ha
    rw [List.length_map, Array.length_toList] at hj
    rw [← numAt_eq]; exact h2 j (by omega)
end
end HT
namespace L2
open PySem PySem.Spec PyProof.Rows
def rMaxLT (K : PySem.W.Frag) : List V → Hp → VK → Prop := fun vs H Q => ∃ (a : Addr) (ns : List Int), vs = [V.ref a] ∧ (SqL K H a (ns.map V.int) ∨ SqT K H a (ns.map V.int)) ∧ 0 < ns.length ∧ ∀ m, m ∈ ns → (∀ y, y ∈ ns → y ≤ m) → Q (.int m) H
theorem cr_maxLT {X : Cx} (hc : X.calm = true) : CallR X (.builtin "max") (rMaxLT X.K) := by
  intro pins s σ H vs us Q I r h
  obtain ⟨a, ns, rfl, hs, hne, q⟩ := h
  rw [Vals.ref1 r]
  rcases hs with hs | hs
  · obtain ⟨its, rv, hl, _⟩ := I.list hs
    exact max_raw (I.ok.hd hc) hl.isList rv.ints hne fun h' tk m t' hk h1 h2 => ⟨.int _, H, I.kept hk, ⟨_, rfl⟩, q m h1 h2⟩
  · obtain ⟨its, rv, hl, _⟩ := I.tuple hs
    exact HT.maxT_raw (I.ok.hd hc) hl rv.ints hne fun h' tk m t' hk h1 h2 => ⟨.int _, H, I.kept hk, ⟨_, rfl⟩, q m h1 h2⟩
/-- the tuple at a as it stands at each turn, each item in a new pair -/
def IteT (K : PySem.W.Frag) (a : Addr) : It :=
  ⟨fun i H => ∃ (xs : List V) (x : V), SqT K H a xs ∧ xs[i]? = some x, fun i H v H' => ∃ T x, v = .ref T ∧ H T = none ∧ H' = upd H T (.tup [.int (i : Nat), x]) ∧ ∀ xs, SqT K H a xs → xs[i]? = some x, fun i H => ∃ xs : List V, SqT K H a xs ∧ xs.length = i⟩
theorem turn_enumT {P : Program} {w : World} {K : PySem.W.Frag} {elts : List Expr} {kk : Nat} {tpos : Pos} (a e it : Addr) :
    Turn P w K (.Tuple elts kk tpos) (IteT K a) [e, it] e (fun i h => (∃ old, IsEnum h e it ((i : Nat) : Int) old) ∧ h.IsTupleIter it a i ∧ e ≠ it) where
  mem := by simp
  obj := fun i h st b hb => by
    obtain ⟨⟨old, he⟩, ⟨o, ho, hc, hd⟩, _⟩ := st
    have e' : b = e ∨ b = it := by simpa using hb
    rcases e' with z | z
    · rw [z]; exact ⟨_, he, fun v q => nomatch q⟩
    · rw [z]; exact ⟨o, ho, fun v q => by rw [hd] at q; cases q⟩
  keep := fun i h h' st k => let ⟨⟨old, he⟩, hi, hne⟩ := st; ⟨⟨old, k e (by simp) _ he⟩, hi.at fun o q => k it (by simp) o q, hne⟩
  item := by
    intro X hP hw hK hc i pins s σ H E I hf st hg
    subst hP hw hK
    obtain ⟨⟨old, he⟩, hit, hne⟩ := st
    obtain ⟨xs, x, hq, hx⟩ := hg
    obtain ⟨its, rv, p, hz⟩ := I.tuple hq
    obtain ⟨u, hu, ru⟩ := rv.get hx
    have hel : e < s.heap.objs.size := Heap.lt_size he
    have hil : it < s.heap.objs.size := by obtain ⟨_, q, _⟩ := hit; exact Heap.lt_size q
    obtain ⟨ot, hot, _⟩ := id p
    have hea : e ≠ a := by
      intro z
      obtain ⟨o1, h1, h2, _⟩ := id p
      rw [← z, he] at h1
      cases h1
      exact absurd (show Value.type "enumerate" = Value.type "tuple" from h2) (by decide)
    have hta : a ≠ it := by
      intro z
      obtain ⟨o1, h1, h2, _⟩ := id p
      obtain ⟨o2, h3, h4, _⟩ := id hit
      rw [z, h3] at h1
      cases h1
      rw [h4] at h2
      exact absurd h2 (by decide)
    have hlt : i < its.toArray.size := by
      rw [List.size_toArray]
      exact (List.getElem?_eq_some_iff.mp hu).1
    refine wpAny_pyNext_enum_itemD (Draws.tuple (A := X.A.in1) (I.ok.hd hc) it a hta its.toArray) he ⟨hit, p⟩ hlt hne (by simp [hne, hea]) fun x' h' tk hP ho st' hT hsz hk => ?_
    have ex : x' = u := by
      have q : its.toArray[i]? = some x' := hP
      rw [List.getElem?_toArray, hu] at q
      exact (Option.some.inj q).symm
    subst ex
    refine ⟨_, rfl, wpAny_letOwnedTupleGo_enum (s := { s with heap := h', toks := tk + 1 }) ho fun h'' he' sb => ?_⟩
    have hT2 : h''.get? s.heap.objs.size = some { cls := .type "tuple", data := .seq #[.int i tk, x'] } := (sb.2 _ (Nat.ne_of_gt hel)).trans hT
    have new : ObjOk X.prog X.w (upd H s.heap.objs.size (.tup [.int (i : Nat), x])) h'' s.heap.objs.size (.tup [.int (i : Nat), x]) :=
      ⟨by show 2 ≤ sizeLine; decide, [.int i tk, x'], .cons ⟨_, rfl⟩ (.cons ru .nil), ⟨_, hT2, rfl, _, rfl⟩⟩
    have I1 : Inv X pins σ (upd H s.heap.objs.size (.tup [.int (i : Nat), x])) { s with heap := h'', toks := tk + 1 } :=
      I.turnedNew (ch := [e, it]) (fun b ob hb q => (sb.2 b (fun z => hb (by simp [z]))).trans (hk b ob (fun z => hb (by simp [z])) (fun z => hb (by simp [z])) q)) hf (Nat.le_refl _) new
    refine ⟨.ref s.heap.objs.size, _, I1, rfl, ⟨_, x, rfl, I.hok.fresh (Nat.le_refl _), rfl, fun ys hy => by rw [I.tuple_inj hy hq]; exact hx⟩, ⟨⟨x', ?_⟩, st'.1.at fun o q => (sb.2 it (Ne.symm hne)).trans q, hne⟩, fun b hb => ?_⟩
    · have e1 : ((i + 1 : Nat) : Int) = (i : Int) + 1 := by omega
      rw [e1]; exact he'
    · have hb' : b < s.heap.objs.size := by
        have e' : b = e ∨ b = it := by simpa using hb
        rcases e' with z | z
        · rw [z]; exact hel
        · rw [z]; exact hil
      rw [upd_ne (Nat.ne_of_lt hb')]
      exact (hf b hb).1
  done := by
    intro X hP hw hK hc i pins s σ H E I hf st hg
    subst hP hw hK
    obtain ⟨⟨old, he⟩, hit, hne⟩ := st
    obtain ⟨xs, hq, hx⟩ := hg
    obtain ⟨its, rv, p, hz⟩ := I.tuple hq
    obtain ⟨f0, f1, f2, f3, f4, f5⟩ := hf it (by simp)
    have hl := rv.length
    have hta : a ≠ it := by
      intro z
      obtain ⟨o1, h1, h2, _⟩ := id p
      obtain ⟨o2, h3, h4, _⟩ := id hit
      rw [z, h3] at h1
      cases h1
      rw [h4] at h2
      exact absurd h2 (by decide)
    have ei : its.toArray.size = i := by rw [List.size_toArray]; omega
    exact wpAny_pyNext_enum_endD (Draws.tuple (A := X.A.in1) (I.ok.hd hc) it a hta its.toArray) he ⟨by rw [ei]; exact hit, p⟩ fun h' eb => ⟨rfl, I.turned (t' := s.toks) (fun b o hb q => eb b o hb q) f0 f1 f3 f4 f5⟩
  self := fun A i s Q E st h => let ⟨⟨_, he⟩, _⟩ := st; wpAny_pyIter_enum he h
def iEnumLT (K : PySem.W.Frag) (ta : TA) : TI := fun σ H R => ta σ H fun vs H1 => ∃ a xs, vs = [.ref a] ∧ ((SqL K H1 a xs ∧ R (Ite K a) H1) ∨ (SqT K H1 a xs ∧ R (IteT K a) H1))
theorem pi_enumLT {X : Cx} {e : Expr} {ta : TA} {p pos tpos : Pos} {elts : List Expr} {kk : Nat} (hg : Gl X "enumerate") (hm : X.mg "enumerate" = none) (ha : PA X [e] ta) (hs : starEach [e] X.env = [(false, eval e X.env)] := by rfl) :
    PI X (.Tuple elts kk tpos) (.Call (.Name "enumerate" p) [e] [] pos) (iEnumLT X.K ta) := by
  refine ⟨fun pins s σ H R I h => ?_⟩
  refine Call_ (ld_blt I hg hm boot_enumerate (PyProof.Rows.callWith_type1 (thn (ha.run pos pins s σ H _ I h) fun us s1 ⟨vs, H1, I1, r1, q1⟩ => ?_) hs rfl))
  obtain ⟨a, xs, ex, q⟩ := q1
  subst ex
  cases r1 with
  | cons r rr =>
    cases rr
    cases r
    have out : ∀ b : Addr, b ∈ [s1.heap.objs.size + 1, s1.heap.objs.size] → s1.heap.objs.size ≤ b := fun b hb => by
      have e' : b = s1.heap.objs.size + 1 ∨ b = s1.heap.objs.size := by simpa using hb
      rcases e' with z | z
      · rw [z]; exact Nat.le_add_right _ _
      · rw [z]; exact Nat.le_refl _
    rcases q with ⟨hq, q⟩ | ⟨hq, q⟩
    · obtain ⟨its, rv, p', hz⟩ := I1.list hq
      refine call_enumerate_list p'.isList fun h' he hit hsz hk => wpAny_pyIter_enum he ?_
      have I2 : Inv X pins σ H1 { s1 with heap := h' } := I1.kept (t' := s1.toks) hk
      exact ⟨s1.heap.objs.size + 1, [s1.heap.objs.size + 1, s1.heap.objs.size], _, _, H1, rfl, I2, turn_enum a (s1.heap.objs.size + 1) s1.heap.objs.size, ⟨⟨.none, he⟩, hit, Nat.succ_ne_self _⟩, fun b hb => I1.fpOk (out b hb) (I1.hok.fresh (out b hb)), q⟩
    · obtain ⟨its, rv, p', hz⟩ := I1.tuple hq
      refine HT.enum1_begins (begins_tuple a its.toArray) p' fun h' he hit hsz hk => wpAny_pyIter_enum he ?_
      have I2 : Inv X pins σ H1 { s1 with heap := h' } := I1.kept (t' := s1.toks) hk
      exact ⟨s1.heap.objs.size + 1, [s1.heap.objs.size + 1, s1.heap.objs.size], _, _, H1, rfl, I2, turn_enumT a (s1.heap.objs.size + 1) s1.heap.objs.size, ⟨⟨.none, he⟩, ⟨_, hit, rfl, rfl⟩, Nat.succ_ne_self _⟩, fun b hb => I1.fpOk (out b hb) (I1.hok.fresh (out b hb)), q⟩
end L2
namespace HT
open PySem PySem.Spec PySem.Calls PyProof.Rows L2
section
variable {prog : Program} {w : World} {A : Around} {E : Value → Shared → Prop} {s : Shared}
theorem min_intTup {l : Addr} {xs : Array (Int × Tok)} {Q : Value → Shared → Prop} (hh : A.handled = none) (hl : s.heap.IsTuple l (intItems xs)) (hne : 0 < xs.size)
    (h : ∀ v h' tk, (intItems xs)[argBest (fun i j => decide (numAt xs i < numAt xs j)) (xs.size - 1)]? = some v → (∀ b o, s.heap.get? b = some o → h'.get? b = some o) → Q v { s with heap := h', toks := tk }) :
    wpAny (model prog w) A (call (.builtin "min") [.ref l]) Q E s := by
  have hlt : l < s.heap.objs.size := by obtain ⟨_, e, _⟩ := hl; exact Heap.lt_size e
  refine call_min_walk (wpAny_pyIter_tuple hl ?_)
  refine ⟨_, _, _, _, _, _, _, rfl, Walks.tuple (A := A.in1) hh _ l (Nat.ne_of_lt hlt) (intItems xs), ⟨⟨_, Heap.get?_push_size _ rfl, rfl, rfl⟩, hl.push _⟩, fun b hb => ?_, by simpa [intItems] using hne, CmpOf.ints_lt (numAt xs) (fun _ _ => intItems_at), fun v h' tk hP hk => ?_⟩
  · show b < (s.heap.push _).objs.size
    rw [Heap.size_push]
    rcases List.mem_cons.mp hb with e | hb
    · rw [e]; exact Nat.lt_succ_self _
    · rw [List.mem_singleton.mp hb]; exact Nat.lt_succ_of_lt hlt
  · refine h v h' tk (by simpa [intItems] using hP) fun b o e => hk b o (fun hm => ?_) (Heap.get?_push_of_some _ e)
    rw [List.mem_singleton.mp hm] at e
    exact absurd (Heap.lt_size e) (Nat.lt_irrefl _)
theorem minT_raw {l : Addr} {its : List Value} {ns : List Int} {Q : Value → Shared → Prop} (hh : A.handled = none) (hl : s.heap.IsTuple l its.toArray) (hi : IntsAre its ns) (hne : 0 < ns.length)
    (h : ∀ h' tk M t', (∀ b o, s.heap.get? b = some o → h'.get? b = some o) → M ∈ ns → (∀ a, a ∈ ns → M ≤ a) → Q (.int M t') { s with heap := h', toks := tk }) : wpAny (model prog w) A (call (.builtin "min") [.ref l]) Q E s := by
  obtain ⟨xs, e⟩ := hi.allInts.items
  have hn : numsOf (intItems xs).toList = ns := by rw [← e]; exact hi.numsOf
  rw [nums_intItems] at hn
  subst hn
  rw [e] at hl
  have hsz : 0 < xs.size := by simpa using hne
  refine min_intTup hh hl hsz fun v h' tk hv hk => ?_
  obtain ⟨t, rfl⟩ := intItems_at hv
  obtain ⟨h1, h2⟩ := argBest_lt (numAt xs) (xs.size - 1)
  refine h h' tk _ t hk ?_ fun a ha => ?_
  · rw [numAt_eq]; exact PySem.getD_mem (by rw [List.length_map, Array.length_toList]; omega)
  · obtain ⟨j, hj, rfl⟩ := mem_getD ha
    rw [List.length_map, Array.length_toList] at hj
    rw [← numAt_eq]; exact h2 j (by omega)
theorem sum_intTup {l : Addr} {xs : Array (Int × Tok)} {Q : Value → Shared → Prop} (hh : A.handled = none) (hl : s.heap.IsTuple l (intItems xs))
    (h : ∀ h' tk t', (∀ b o, s.heap.get? b = some o → h'.get? b = some o) → Q (.int (preSum (numAt xs) xs.size) t') { s with heap := h', toks := tk }) :
    wpAny (model prog w) A (call (.builtin "sum") [.ref l]) Q E s := by
  have hlt : l < s.heap.objs.size := by obtain ⟨_, e, _⟩ := hl; exact Heap.lt_size e
  refine call_sum_walkG (wpAny_pyIter_tuple hl ?_)
  refine ⟨_, _, _, _, _, _, numAt xs, rfl, Walks.tuple (A := A.in1) hh _ l (Nat.ne_of_lt hlt) (intItems xs), ⟨⟨_, Heap.get?_push_size _ rfl, rfl, rfl⟩, hl.push _⟩, fun b hb => ?_, (fun _ _ => intItems_at), fun h' tk t' hk => ?_⟩
  · show b < (s.heap.push _).objs.size
    rw [Heap.size_push]
    rcases List.mem_cons.mp hb with e | hb
    · rw [e]; exact Nat.lt_succ_self _
    · rw [List.mem_singleton.mp hb]; exact Nat.lt_succ_of_lt hlt
  · have := h h' tk t' fun b o e => hk b o (fun hm => by
      rw [List.mem_singleton.mp hm] at e
      exact absurd (Heap.lt_size e) (Nat.lt_irrefl _)) (Heap.get?_push_of_some _ e)
    simpa [intItems] using this
theorem sumT_raw {l : Addr} {its : List Value} {ns : List Int} {Q : Value → Shared → Prop} (hh : A.handled = none) (hl : s.heap.IsTuple l its.toArray) (hi : IntsAre its ns)
    (h : ∀ h' tk t', (∀ b o, s.heap.get? b = some o → h'.get? b = some o) → Q (.int ns.sum t') { s with heap := h', toks := tk }) : wpAny (model prog w) A (call (.builtin "sum") [.ref l]) Q E s := by
  obtain ⟨xs, e⟩ := hi.allInts.items
  have hn : numsOf (intItems xs).toList = ns := by rw [← e]; exact hi.numsOf
  rw [nums_intItems] at hn
  rw [e] at hl
  refine sum_intTup hh hl fun h' tk t' hk => ?_
  have := h h' tk t' hk
  rw [preSum_eq, List.take_of_length_le (by simp), hn]; exact this
/-- sorted of what is collected -/
theorem sorted_by {x : Value} {vs : List Value} {ltv : Value → Value → Bool} {Q : Value → Shared → Prop} (O : SrtO.Swo ltv)
    (hc : ∀ {R : List Value → Shared → Prop}, (∀ h' tk, (∀ b o, s.heap.get? b = some o → h'.get? b = some o) → R vs { s with heap := h', toks := tk }) → wpAny (model prog w) A.in1 (collect x) R E s) (hz : vs.length ≤ sizeLine)
    (hS : 2 ≤ vs.length → ∀ (h₁ : Heap) (tk : Nat) (a : Addr), (∀ b o, s.heap.get? b = some o → b ≠ a ∧ h₁.get? b = some o) → SrtO.SortableO prog w A.in1.in1 { s with heap := h₁, toks := tk } a vs ltv)
    (h : ∀ (out : List Value) (h₀ h' : Heap) (tk e : Nat), SrtO.Srtd ltv out → SrtO.Stb ltv out vs → (∀ b o, s.heap.get? b = some o → h₀.get? b = some o) → (∀ b o, h₀.get? b = some o → h'.get? b = some o) → h'.get? h₀.objs.size = some (seqObj "list" out.toArray e) → Q (.ref h₀.objs.size) { s with heap := h', toks := tk }) :
    wpAny (model prog w) A (call (.builtin "sorted") [x]) Q E s := by
  refine Calls.call_function_entry kind_sorted plain_sorted entry_sorted (args_sorted1 _) ?_
  unfold Builtin.«sorted»
  refine wpAny_bind (m := checkCount "sorted" 1 1 _) (wpAny_pure ?_)
  refine wpAny_bind (hc fun h' tk hk => ?_)
  refine wpAny_bind (wpAny_newList ?_ hz)
  have hoL : (h'.push (seqObj "list" vs.toArray 0)).get? h'.objs.size = some (seqObj "list" vs.toArray 0) := Heap.get?_push_size _ rfl
  have keep : ∀ b o, s.heap.get? b = some o → b ≠ h'.objs.size ∧ (h'.push (seqObj "list" vs.toArray 0)).get? b = some o := fun b o q =>
    ⟨Nat.ne_of_lt (Heap.lt_size (hk b o q)), Heap.get?_push_of_some _ (hk b o q)⟩
  show wpAny _ _ _ _ _ { s with heap := h'.push (seqObj "list" vs.toArray 0), toks := tk }
  refine wpAny_bind (wpAny_holding (wpAny_call_entry slot_list_sort ⟨_, hoL, rfl⟩ entry_list_sort (SrtO.list_sort_ord (s := { s with heap := h'.push (seqObj "list" vs.toArray 0), toks := tk }) O hoL hz (fun h2 => hS h2 _ tk _ keep) fun out hs hb => ⟨_, rfl, ?_⟩) (args_list_sort _)))
  obtain ⟨e', he'⟩ := sortedHeap_at (vs := vs) (out := out.toArray) hoL
  refine wpAny_pure ⟨_, rfl, h out h' _ tk e' hs hb hk (fun b o e => ?_) he'⟩
  have hb' : b < h'.objs.size := Heap.lt_size e
  rw [sortedHeap_old (Nat.ne_of_lt hb') (by rw [size_push']; exact Nat.lt_succ_of_lt hb')]
  exact Heap.get?_push_of_some _ e
end
end HT

namespace L2
open PySem PySem.Spec PyProof.Rows
def rMinLT (K : PySem.W.Frag) : List V → Hp → VK → Prop := fun vs H Q => ∃ (a : Addr) (ns : List Int), vs = [V.ref a] ∧ (SqL K H a (ns.map V.int) ∨ SqT K H a (ns.map V.int)) ∧ 0 < ns.length ∧ ∀ m, m ∈ ns → (∀ y, y ∈ ns → m ≤ y) → Q (.int m) H
theorem cr_minLT {X : Cx} (hc : X.calm = true) : CallR X (.builtin "min") (rMinLT X.K) := by
  intro pins s σ H vs us Q I r h
  obtain ⟨a, ns, rfl, hs, hne, q⟩ := h
  rw [Vals.ref1 r]
  rcases hs with hs | hs
  · obtain ⟨its, rv, hl, _⟩ := I.list hs
    exact min_raw (I.ok.hd hc) hl.isList rv.ints hne fun h' tk m t' hk h1 h2 => ⟨.int _, H, I.kept hk, ⟨_, rfl⟩, q m h1 h2⟩
  · obtain ⟨its, rv, hl, _⟩ := I.tuple hs
    exact HT.minT_raw (I.ok.hd hc) hl rv.ints hne fun h' tk m t' hk h1 h2 => ⟨.int _, H, I.kept hk, ⟨_, rfl⟩, q m h1 h2⟩
def rSumLT (K : PySem.W.Frag) : List V → Hp → VK → Prop := fun vs H Q => ∃ (a : Addr) (ns : List Int), vs = [V.ref a] ∧ (SqL K H a (ns.map V.int) ∨ SqT K H a (ns.map V.int)) ∧ Q (.int ns.sum) H
theorem cr_sumLT {X : Cx} (hc : X.calm = true) : CallR X (.builtin "sum") (rSumLT X.K) := by
  intro pins s σ H vs us Q I r h
  obtain ⟨a, ns, rfl, hs, q⟩ := h
  rw [Vals.ref1 r]
  rcases hs with hs | hs
  · obtain ⟨its, rv, hl, _⟩ := I.list hs
    exact sum_raw (I.ok.hd hc) hl.isList rv.ints fun h' tk t' hk => ⟨.int _, H, I.kept hk, ⟨_, rfl⟩, q⟩
  · obtain ⟨its, rv, hl, _⟩ := I.tuple hs
    exact HT.sumT_raw (I.ok.hd hc) hl rv.ints fun h' tk t' hk => ⟨.int _, H, I.kept hk, ⟨_, rfl⟩, q⟩
def rSortedLT (K : PySem.W.Frag) : List V → Hp → VK → Prop := fun vs H Q => ∃ (a : Addr) (ns : List Int), vs = [V.ref a] ∧ (SqL K H a (ns.map V.int) ∨ SqT K H a (ns.map V.int)) ∧
  ∀ (ns' : List Int) (p : Addr), ns'.Perm ns → ns'.Pairwise (· ≤ ·) → H p = none → Q (.ref p) (upd H p (.lst (ns'.map V.int)))
theorem cr_sortedLT {X : Cx} : CallR X (.builtin "sorted") (rSortedLT X.K) := by
  intro pins s σ H vs us Q I r h
  obtain ⟨a, ns, rfl, hs, q⟩ := h
  rcases hs with hs | hs
  · exact cr_sortedI pins s σ H _ us Q I r ⟨a, ns, rfl, hs, q⟩
  obtain ⟨its, rv, hl, hz⟩ := I.tuple hs
  rw [Vals.ref1 r]
  have hi := rv.ints
  have hz2 : its.length ≤ sizeLine := by rw [← rv.length]; exact hz
  obtain ⟨o, ho, hcl, n, hd⟩ := id hl
  refine HT.sorted_by (vs := its) SrtO.swo_int (fun {R} hR => PySem.wpAny_collect_seq a (.inr rfl) ho hcl hd (fun h' k => hR h' s.toks k) (by simpa using hz2)) hz2 (fun h2 h₁ tk a' _ => SrtO.ints_sortable hi h2) fun out h₀ h' tk e h1 h2 k0 k1 he => ?_
  obtain ⟨j1, j2, j3⟩ := SrtO.ints_out hi h1 h2
  have hlen : ((out.map SrtO.iv).map V.int).length ≤ sizeLine := by
    rw [List.length_map, j2.length_eq]
    rw [List.length_map] at hz
    exact hz
  have I1 : Inv X pins σ H { s with heap := h₀, toks := tk } := I.kept k0
  exact ⟨.ref h₀.objs.size, upd H h₀.objs.size (.lst ((out.map SrtO.iv).map V.int)), I1.laid (t' := tk) k1 (Nat.le_refl _)
    (show ObjOk X.prog X.w _ _ _ (.lst ((out.map SrtO.iv).map V.int)) from ⟨hlen, out, e, vals_of_ints j1, he⟩), rfl, q _ _ j2 j3 (I1.hok.fresh (Nat.le_refl _))⟩
end L2

/-! L3D: the operations keep their promises; calls of built-ins, displays, places, slices. -/
namespace L3
open PySem PySem.Spec PyProof.Rows L2
section
variable {X : Cx} {Y : Wd} {W : WX} {U : Ev} {a b c e : Expr} {a' b' c' : E} {es : List Expr} {as' : Es} {pos p : Pos}

/-- the end of an operation: a told value -/
theorem fin_sh {G R H : Hp} {σ : L2.St} {en : En} {d : D} {Q : VK} {v : V} (S : Sep Y G R H σ en) (p : Pst Y W (okV Y) G R σ en (.ok (d, false) en) Q) (r : Rep Y G v d) : Q v H :=
  p v H G (Same.refl _) (Keep.refl _ _) S r
/-- .. a new shared thing -/
theorem fin_newG {G R H : Hp} {σ : L2.St} {en : En} {d : D} {Q : VK} {q : Addr} {o : HO} (S : Sep Y G R H σ en) (p : Pst Y W (okV Y) G R σ en (.ok (d, false) en) Q) (hq : H q = none) (r : Rep Y (upd G q o) (.ref q) d) (n : ∀ ps, o ≠ .tbl ps := by intro _ z; cases z) : Q (.ref q) (upd H q o) :=
  p _ _ (upd G q o) (same_new (S.gnone hq)) (Keep.refl _ _) (S.newG hq n) r
/-- .. a new owned thing -/
theorem fin_own {G R H : Hp} {σ : L2.St} {en : En} {d : D} {Q : VK} {q : Addr} {o : HO} (S : Sep Y G R H σ en) (p : Pst Y W (okV Y) G R σ en (.ok (d, true) en) Q) (hq : H q = none) (t : Top Y G (upd H q o) q d) : Q (.ref q) (upd H q o) :=
  p _ _ G (Same.refl _) (Keep.refl _ _) (S.new hq) ⟨q, rfl, ⟨S.gnone hq, S.rnone hq, t⟩, S.freeNew hq⟩

theorem Pk.int {G H : Hp} {v : V} {i : Int} (h : Pk Y G H v (.int i)) : v = .int i := by
  rcases h with h | ⟨a, _, t⟩
  · cases h; rfl
  · cases t
theorem Pk.bl {G H : Hp} {v : V} {i : Bool} (h : Pk Y G H v (.bl i)) : v = .bl i := by
  rcases h with h | ⟨a, _, t⟩
  · cases h; rfl
  · cases t
theorem Pk.str {G H : Hp} {v : V} {i : Str} (h : Pk Y G H v (.str i)) : v = .str i := by
  rcases h with h | ⟨a, _, t⟩
  · cases h; rfl
  · cases t
theorem Pk.tup {G H : Hp} {v : V} {ds : List D} (h : Pk Y G H v (.tup ds)) : ∃ a vs, v = .ref a ∧ SqT Y.K G a vs ∧ RepL Y G vs ds := by
  rcases h with h | ⟨a, _, t⟩
  · cases h with | tup h1 h2 => exact ⟨_, _, rfl, h1, h2⟩
  · cases t
theorem Pk.lst {G R H : Hp} {σ : L2.St} {en : En} {v : V} {ds : List D} (S : Sep Y G R H σ en) (h : Pk Y G H v (.lst ds)) : ∃ a vs, v = .ref a ∧ H a = some (.lst vs) ∧ RepL Y G vs ds := by
  rcases h with h | ⟨a, rfl, t⟩
  · cases h with | lst h1 h2 => exact ⟨_, _, rfl, S.gH _ _ h1, h2⟩
  · cases t with | lst h1 h2 => exact ⟨_, _, rfl, h1, h2⟩
theorem Pk.fls {G H : Hp} {v : V} {ds : List D} (h : Pk Y G H v (.fls ds)) : ∃ a vs, v = .ref a ∧ SqL Y.K G a vs ∧ RepL Y G vs ds := by
  rcases h with h | ⟨a, _, t⟩
  · cases h with | fls h1 h2 => exact ⟨_, _, rfl, h1, h2⟩
  · cases t
theorem Pk.obj {G R H : Hp} {σ : L2.St} {en : En} {v : V} {c : Nat} {ns : List Str} {ds : List D} (S : Sep Y G R H σ en) (h : Pk Y G H v (.obj c ns ds)) : ∃ a dx fs, v = .ref a ∧ Y.ok c ∧ H a = some (.ins (Y.ca c) dx fs) ∧ fs.map (·.1) = ns ∧ RepL Y G (fs.map (·.2)) ds := by
  rcases h with h | ⟨a, rfl, t⟩
  · cases h with | obj h0 h1 h2 h3 h4 => exact ⟨_, _, _, rfl, h0, S.gH _ _ h1, h3, h4⟩
  · cases t with | obj h0 h1 h2 h3 h4 => exact ⟨_, _, _, rfl, h0, h1, h3, h4⟩
theorem Pk.dct {G R H : Hp} {σ : L2.St} {en : En} {v : V} {ks : List Key} {ds : List D} (S : Sep Y G R H σ en) (h : Pk Y G H v (.dct ks ds)) : ∃ a kvs, v = .ref a ∧ H a = some (.dK kvs) ∧ kvs.map (·.1) = ks ∧ RepL Y G (kvs.map (·.2)) ds := by
  rcases h with h | ⟨a, rfl, t⟩
  · cases h with | dct h1 h2 h3 => exact ⟨_, _, rfl, S.gH _ _ h1, h2, h3⟩
  · cases t with | dct h1 h2 h3 => exact ⟨_, _, rfl, h1, h2, h3⟩
theorem pk1 {G H : Hp} {vs : List V} {d : D} (h : PkL Y G H vs [d]) : ∃ v, vs = [v] ∧ Pk Y G H v d := by
  match vs, h with
  | [v], h => exact ⟨v, rfl, h.1⟩
  | _ :: _ :: _, h => exact h.2.elim
theorem pk2 {G H : Hp} {vs : List V} {d f : D} (h : PkL Y G H vs [d, f]) : ∃ v u, vs = [v, u] ∧ Pk Y G H v d ∧ Pk Y G H u f := by
  match vs, h with
  | [v, u], h => exact ⟨v, u, rfl, h.1, h.2.1⟩
  | [_], h => exact h.2.elim
  | _ :: _ :: _ :: _, h => exact h.2.2.elim
theorem pk3 {G H : Hp} {vs : List V} {d f g : D} (h : PkL Y G H vs [d, f, g]) : ∃ v u w, vs = [v, u, w] ∧ Pk Y G H v d ∧ Pk Y G H u f ∧ Pk Y G H w g := by
  match vs, h with
  | [v, u, w], h => exact ⟨v, u, w, rfl, h.1, h.2.1, h.2.2.1⟩
  | [_], h => exact h.2.elim
  | [_, _], h => exact h.2.2.elim
  | _ :: _ :: _ :: _ :: _, h => exact h.2.2.2.elim


/-! ### shapes -/
theorem i1_some {f : Int → Rn} {ds : List D} {p : D × Bool} (e : i1 f ds = some p) : ∃ i, ds = [.int i] ∧ f i = some p := by
  unfold i1 at e
  split at e
  · exact ⟨_, rfl, e⟩
  · cases e
theorem i2_some {f : Int → Int → Rn} {ds : List D} {p : D × Bool} (e : i2 f ds = some p) : ∃ i j, ds = [.int i, .int j] ∧ f i j = some p := by
  unfold i2 at e
  split at e
  · exact ⟨_, _, rfl, e⟩
  · cases e
theorem a1_some {f : D → Rn} {ds : List D} {p : D × Bool} (e : a1 f ds = some p) : ∃ d, ds = [d] ∧ f d = some p := by
  unfold a1 at e
  split at e
  · exact ⟨_, rfl, e⟩
  · cases e
theorem a2_some {f : D → D → Rn} {ds : List D} {p : D × Bool} (e : a2 f ds = some p) : ∃ d g, ds = [d, g] ∧ f d g = some p := by
  unfold a2 at e
  split at e
  · exact ⟨_, _, rfl, e⟩
  · cases e
theorem l1_some {f : List D → Rn} {ds : List D} {p : D × Bool} (e : l1 f ds = some p) : ∃ xs, ds = [.lst xs] ∧ f xs = some p := by
  unfold l1 at e
  split at e
  · exact ⟨_, rfl, e⟩
  · cases e
theorem oB_some {r : Option Bool} {p : D × Bool} (e : oB r = some p) : ∃ b, r = some b ∧ p = (.bl b, false) := by
  cases r with
  | none => cases e
  | some b => cases e; exact ⟨b, rfl, rfl⟩
theorem oI_some {r : Option Int} {p : D × Bool} (e : oI r = some p) : ∃ b, r = some b ∧ p = (.int b, false) := by
  cases r with
  | none => cases e
  | some b => cases e; exact ⟨b, rfl, rfl⟩
theorem gd_some {c : Bool} {r p : D × Bool} (e : gd c r = some p) : c = true ∧ p = r := by
  unfold gd at e
  split at e
  · cases e; exact ⟨by assumption, rfl⟩
  · cases e
theorem fit_le {n : Nat} (h : fit n = true) : n ≤ sizeLine := of_decide_eq_true h

/-! ### numbers -/
abbrev P2 (Y : Wd) (W : WX) (o : Op) (r : R2) : Prop := PrimN Y W o fun vs H Q => ∀ x y, vs = [x, y] → r x y H Q
abbrev P1 (Y : Wd) (W : WX) (o : Op) (r : V → Hp → VK → Prop) : Prop := PrimN Y W o fun vs H Q => ∀ x, vs = [x] → r x H Q
theorem P2.mk {o : Op} {r : R2} (h : ∀ (G R H : Hp) (σ : L2.St) (en : En) (x y : V) (ds : List D) (p : D × Bool) (Q : VK), Sep Y G R H σ en → PkL Y G H [x, y] ds → o.run ds = some p → Pst Y W (okV Y) G R σ en (.ok p en) Q → r x y H Q) : P2 Y W o r :=
  fun G R H σ en vs ds p Q S hp e pq x y hv => by subst hv; exact h G R H σ en x y ds p Q S hp e pq
theorem P1.mk {o : Op} {r : V → Hp → VK → Prop} (h : ∀ (G R H : Hp) (σ : L2.St) (en : En) (x : V) (ds : List D) (p : D × Bool) (Q : VK), Sep Y G R H σ en → PkL Y G H [x] ds → o.run ds = some p → Pst Y W (okV Y) G R σ en (.ok p en) Q → r x H Q) : P1 Y W o r :=
  fun G R H σ en vs ds p Q S hp e pq x hv => by subst hv; exact h G R H σ en x ds p Q S hp e pq
theorem P2.int {o : Op} {C : Int → Int → Prop} {g : Int → Int → V} {f : Int → Int → Rn} (h : ∀ ds, o.run ds = i2 f ds) (q : ∀ i j p, f i j = some p → C i j ∧ p.2 = false ∧ ∀ G, Rep Y G (g i j) p.1) : P2 Y W o (rI C g) :=
  .mk fun G R H σ en x y ds p Q S hp e pq => by
    rw [h] at e
    obtain ⟨i, j, rfl, e⟩ := i2_some e
    obtain ⟨c, k, r⟩ := q i j p e
    obtain ⟨d, own⟩ := p
    cases k
    exact ⟨i, j, hp.1.int, hp.2.1.int, c, fin_sh S pq (r G)⟩
theorem P2.int0 {o : Op} {g : Int → Int → V} {f : Int → Int → Rn} (h : ∀ ds, o.run ds = i2 f ds) (q : ∀ i j p, f i j = some p → p.2 = false ∧ ∀ G, Rep Y G (g i j) p.1) : P2 Y W o (rI0 g) :=
  .mk fun G R H σ en x y ds p Q S hp e pq => by
    rw [h] at e
    obtain ⟨i, j, rfl, e⟩ := i2_some e
    obtain ⟨k, r⟩ := q i j p e
    obtain ⟨d, own⟩ := p
    cases k
    exact ⟨i, j, hp.1.int, hp.2.1.int, fin_sh S pq (r G)⟩
theorem P2.or {o : Op} {r r' : R2} (h : P2 Y W o (fun x y H Q => r x y H Q ∨ r' x y H Q)) : P2 Y W o (fun x y H Q => r x y H Q ∨ r' x y H Q) := h

def rMulA (i j : Int) : Prop := CMul i j ∨ CMulW i j
theorem op_mulA : OpR X (binaryOp .Mult) (rI rMulA fun i j => .int (i * j)) := fun pins s σ H x y v u Q I rx ry ⟨i, j, e1, e2, c, q⟩ => by
  rcases c with c | c
  · exact op_mul pins s σ H x y v u Q I rx ry ⟨i, j, e1, e2, c, q⟩
  · exact op_mulW pins s σ H x y v u Q I rx ry ⟨i, j, e1, e2, c, q⟩
def rDivA (i j : Int) : Prop := CDiv i j ∨ CDivW i j
theorem op_divA : OpR X (binaryOp .FloorDiv) (rI rDivA fun i j => .int (i / j)) := fun pins s σ H x y v u Q I rx ry ⟨i, j, e1, e2, c, q⟩ => by
  rcases c with c | c
  · exact op_fdiv pins s σ H x y v u Q I rx ry ⟨i, j, e1, e2, c, q⟩
  · exact op_fdivW pins s σ H x y v u Q I rx ry ⟨i, j, e1, e2, c, q⟩
theorem p_sub : P2 Y W .sub (rI0 fun i j => .int (i - j)) := .int0 (fun _ => rfl) fun i j p e => by cases e; exact ⟨rfl, fun _ => .int _⟩
theorem p_mul : P2 Y W .mul (rI rMulA fun i j => .int (i * j)) := .int (fun _ => rfl) fun i j p e => by
  obtain ⟨c, rfl⟩ := gd_some e
  refine ⟨?_, rfl, fun _ => .int _⟩
  rcases Bool.or_eq_true_iff.mp c with c | c
  · exact .inl (of_decide_eq_true c)
  · exact .inr (show CMulW i j from (of_decide_eq_true c : i.natAbs.log2 + j.natAbs.log2 < 1000000))
theorem p_fdiv : P2 Y W .fdiv (rI rDivA fun i j => .int (i / j)) := .int (fun _ => rfl) fun i j p e => by
  obtain ⟨c, rfl⟩ := gd_some e
  refine ⟨?_, rfl, fun _ => .int _⟩
  rcases Bool.or_eq_true_iff.mp c with c | c
  · exact .inl (of_decide_eq_true c)
  · exact .inr (show CDivW i j from (of_decide_eq_true c : 0 < j ∧ j.natAbs.log2 < 9000))
theorem p_mod : P2 Y W .mod (rI (fun _ j => 0 < j) fun i j => .int (i % j)) := .int (fun _ => rfl) fun i j p e => by
  obtain ⟨c, rfl⟩ := gd_some e
  exact ⟨of_decide_eq_true c, rfl, fun _ => .int _⟩
theorem p_pow : P2 Y W .pow (rI CPow fun i j => .int (i ^ j.toNat)) := .int (fun _ => rfl) fun i j p e => by
  obtain ⟨c, rfl⟩ := gd_some e
  exact ⟨of_decide_eq_true c, rfl, fun _ => .int _⟩
theorem p_shl : P2 Y W .shl (rI CPow fun i j => .int (i * 2 ^ j.toNat)) := .int (fun _ => rfl) fun i j p e => by
  obtain ⟨c, rfl⟩ := gd_some e
  exact ⟨of_decide_eq_true c, rfl, fun _ => .int _⟩
theorem p_shr : P2 Y W .shr (rI (fun _ j => 0 ≤ j) fun i j => .int (i / 2 ^ j.toNat)) := .int (fun _ => rfl) fun i j p e => by
  obtain ⟨c, rfl⟩ := gd_some e
  exact ⟨of_decide_eq_true c, rfl, fun _ => .int _⟩
theorem p_band : P2 Y W .band (rI0 fun i j => .int (Builtin.bitAnd i j)) := .int0 (fun _ => rfl) fun i j p e => by cases e; exact ⟨rfl, fun _ => .int _⟩
theorem p_bor : P2 Y W .bor (rI0 fun i j => .int (Builtin.bitOr i j)) := .int0 (fun _ => rfl) fun i j p e => by cases e; exact ⟨rfl, fun _ => .int _⟩
theorem p_bxor : P2 Y W .bxor (rI0 fun i j => .int (Builtin.bitXor i j)) := .int0 (fun _ => rfl) fun i j p e => by cases e; exact ⟨rfl, fun _ => .int _⟩
theorem p_le : P2 Y W .le (rI0 fun i j => .bl (decide (i ≤ j))) := .int0 (fun _ => rfl) fun i j p e => by cases e; exact ⟨rfl, fun _ => .bl _⟩
theorem p_gt : P2 Y W .gt (rI0 fun i j => .bl (decide (j < i))) := .int0 (fun _ => rfl) fun i j p e => by cases e; exact ⟨rfl, fun _ => .bl _⟩
theorem p_ge : P2 Y W .ge (rI0 fun i j => .bl (decide (j ≤ i))) := .int0 (fun _ => rfl) fun i j p e => by cases e; exact ⟨rfl, fun _ => .bl _⟩
theorem p_neg : P1 Y W .neg (rU fun i => .int (-i)) := .mk fun G R H σ en x ds p Q S hp e pq => by
  obtain ⟨i, rfl, e⟩ := i1_some (show i1 _ ds = some p from e)
  cases e
  exact ⟨i, hp.1.int, fin_sh S pq (.int _)⟩

/-! ### + -/
theorem op_addA : OpR X (binaryOp .Add) (fun x y H Q => rI0 (fun i j => .int (i + j)) x y H Q ∨ rCatA X.K x y H Q ∨ rCat x y H Q ∨ (∃ i j, x = .str i ∧ y = .str j ∧ i.length + j.length ≤ sizeLine ∧ Q (.str (i ++ j)) H)) :=
  op_add.or (op_catA.or (op_cat.or op_add_str))
theorem p_add (hK : X.K = Y.K) : P2 Y W .add (fun x y H Q => rI0 (fun i j => .int (i + j)) x y H Q ∨ rCatA X.K x y H Q ∨ rCat x y H Q ∨ (∃ i j, x = .str i ∧ y = .str j ∧ i.length + j.length ≤ sizeLine ∧ Q (.str (i ++ j)) H)) :=
  .mk fun G R H σ en x y ds p Q S hp e pq => by
    have e : rAdd3 ds = some p := e
    unfold rAdd3 at e
    split at e
    · cases e
      exact .inl ⟨_, _, hp.1.int, hp.2.1.int, fin_sh S pq (.int _)⟩
    · rename_i xs ys e0
      obtain ⟨f, rfl⟩ := gd_some e
      obtain ⟨a, vs, rfl, h1, r1⟩ := hp.1.tup
      obtain ⟨b, us, rfl, h2, r2⟩ := hp.2.1.tup
      refine .inr (.inl ⟨a, b, vs, us, rfl, rfl, by rw [hK]; exact Same.seqT S.gH h1, by rw [hK]; exact Same.seqT S.gH h2, by rw [r1.length, r2.length]; exact fit_le f, fun z => ?_, fun z z2 => ?_, fun _ _ q hq => ?_⟩)
      · subst z
        have : xs = [] := by cases r1; rfl
        subst this
        exact fin_sh S pq (.tup h2 r2)
      · subst z2
        have : ys = [] := by cases r2; rfl
        subst this
        rw [List.append_nil] at pq
        exact fin_sh S pq (.tup h1 r1)
      · exact fin_newG S pq hq (.tup (.inl (.inl upd_same)) ((r1.append r2).mono (same_new (S.gnone hq))))
    · obtain ⟨f, rfl⟩ := gd_some e
      obtain ⟨a, vs, rfl, h1, r1⟩ := hp.1.lst S
      obtain ⟨b, us, rfl, h2, r2⟩ := hp.2.1.lst S
      exact .inr (.inr (.inl ⟨a, b, vs, us, rfl, rfl, h1, h2, by rw [r1.length, r2.length]; exact fit_le f, fun q hq => fin_own S pq hq (.lst upd_same (r1.append r2))⟩))
    · obtain ⟨f, rfl⟩ := gd_some e
      exact .inr (.inr (.inr ⟨_, _, hp.1.str, hp.2.1.str, fit_le f, fin_sh S pq (.str _)⟩))
    · cases e
/-! ### [..] * n -/
theorem flat_rep {G : Hp} {vs : List V} {ds : List D} (r : RepL Y G vs ds) : ∀ n : Nat, RepL Y G (List.replicate n vs).flatten (List.replicate n ds).flatten
  | 0 => .nil
  | n + 1 => by
    rw [List.replicate_succ, List.replicate_succ, List.flatten_cons, List.flatten_cons]
    exact r.append (flat_rep r n)
theorem op_repA : OpR X (binaryOp .Mult) (fun x y H Q => rRep x y H Q ∨ rRepT X.K x y H Q) := op_rep.or op_repT
theorem p_rep (hK : X.K = Y.K) : P2 Y W .rep (fun x y H Q => rRep x y H Q ∨ rRepT X.K x y H Q) := .mk fun G R H σ en x y ds p Q S hp e pq => by
  have e : rRep3 ds = some p := e
  unfold rRep3 at e
  split at e
  · obtain ⟨f, rfl⟩ := gd_some e
    obtain ⟨f1, f2⟩ := Bool.and_eq_true_iff.mp f
    obtain ⟨f3, f4⟩ := of_decide_eq_true f1
    obtain ⟨a, vs, rfl, h1, r1⟩ := hp.1.lst S
    refine .inl ⟨a, _, vs, rfl, hp.2.1.int, h1, f3, f4, by rw [r1.length]; exact fit_le f2, fun q hq => ?_⟩
    exact fin_own S pq hq (.lst upd_same (flat_rep r1 _))
  · obtain ⟨f, rfl⟩ := gd_some e
    obtain ⟨f1, f2, f3, f4⟩ := of_decide_eq_true f
    obtain ⟨a, vs, rfl, h1, r1⟩ := hp.1.tup
    refine .inr ⟨a, _, vs, rfl, hp.2.1.int, by rw [hK]; exact Same.seqT S.gH h1, fun z => ?_, f1, f2, by rw [r1.length]; exact f3, fun q hq => ?_⟩
    · have := r1.length
      rw [z] at this
      simp at this
      omega
    · exact fin_newG S pq hq (.tup (.inl (.inl upd_same)) ((flat_rep r1 _).mono (same_new (S.gnone hq))))
  · cases e

/-! ### == -/
mutual
theorem Rep.dp {K : PySem.W.Frag} {G H : Hp} (hK : K = Y.K) (s : Same G H) : ∀ {d : D} {v : V} {q : PyData}, Rep Y G v d → toPy d = some q → Dp K H v q
  | .non, _, _, h, e => by cases h; cases e; exact .non
  | .bl b, _, _, h, e => by cases h; cases e; exact .bl b
  | .int i, _, _, h, e => by cases h; cases e; exact .int i
  | .str z, _, _, h, e => by cases h; cases e; exact .str z
  | .tup ds, _, _, h, e => by
    cases h with | tup h1 h2 =>
      simp only [toPy] at e
      split at e
      · rename_i ps e2
        cases e
        exact .tup (by rw [hK]; exact Same.seqT s h1) (RepL.dp hK s h2 e2)
      · cases e
  | .lst ds, _, _, h, e => by
    cases h with | lst h1 h2 =>
      simp only [toPy] at e
      split at e
      · rename_i ps e2
        cases e
        exact .lst (.inl (.inl (s _ _ h1))) (RepL.dp hK s h2 e2)
      · cases e
  | .fls _, _, _, _, e => by cases e
  | .dct _ _, _, _, _, e => by cases e
  | .set _, _, _, _, e => by cases e
  | .obj _ _ _, _, _, _, e => by cases e
  | .exc _ _ _, _, _, _, e => by cases e
  | .thk _ _, _, _, _, e => by cases e
theorem RepL.dp {K : PySem.W.Frag} {G H : Hp} (hK : K = Y.K) (s : Same G H) : ∀ {ds : List D} {vs : List V} {qs : List PyData}, RepL Y G vs ds → toPys ds = some qs → DpAll K H vs qs
  | [], _, _, h, e => by cases h; cases e; exact .nil
  | d :: ds, _, _, h, e => by
    cases h with | cons h1 h2 =>
      simp only [toPys] at e
      split at e
      · rename_i q qs e1 e2
        cases e
        exact .cons (Rep.dp hK s h1 e1) (RepL.dp hK s h2 e2)
      · cases e
end
theorem Pk.dp {G R H : Hp} {σ : L2.St} {en : En} {K : PySem.W.Frag} {v : V} {d : D} {q : PyData} (hK : K = Y.K) (S : Sep Y G R H σ en) (h : Pk Y G H v d) (e : toPy d = some q) : Dp K H v q := by
  rcases h with h | ⟨a, rfl, t⟩
  · exact h.dp hK S.gH e
  · cases t with
    | lst h1 h2 =>
      simp only [toPy] at e
      split at e
      · rename_i ps e2
        cases e
        exact .lst (.inl (.inl h1)) (h2.dp hK S.gH e2)
      · cases e
    | dct => cases e
    | obj => cases e
theorem eqD_some {a b : D} {r : Bool} (e : eqD a b = some r) : ∃ p q, toPy a = some p ∧ toPy b = some q ∧ SeqAt.shaped p = true ∧ SeqAt.shaped q = true ∧ r = PyData.eqv p q := by
  unfold eqD at e
  split at e
  · rename_i p q e1 e2
    split at e
    · rename_i h
      cases e
      obtain ⟨h1, h2⟩ := Bool.and_eq_true_iff.mp h
      exact ⟨p, q, e1, e2, h1, h2, rfl⟩
    · cases e
  · cases e
theorem p_eq (hK : X.K = Y.K) : P2 Y W .eq (rEqD X.K) := .mk fun G R H σ en x y ds p Q S hp e pq => by
  obtain ⟨d, f, rfl, e⟩ := a2_some (show a2 _ ds = some p from e)
  obtain ⟨b, e9, rfl⟩ := oB_some e
  obtain ⟨q1, q2, e1, e2, s1, s2, rfl⟩ := eqD_some e9
  exact ⟨q1, q2, hp.1.dp hK S e1, hp.2.1.dp hK S e2, s1, s2, fin_sh S pq (.bl _)⟩
theorem p_ne (hK : X.K = Y.K) : P2 Y W .ne (rNeD X.K) := .mk fun G R H σ en x y ds p Q S hp e pq => by
  obtain ⟨d, f, rfl, e⟩ := a2_some (show a2 _ ds = some p from e)
  obtain ⟨b, e9, rfl⟩ := oB_some e
  cases e3 : eqD d f with
  | none => rw [e3] at e9; cases e9
  | some r =>
    rw [e3] at e9
    cases e9
    obtain ⟨q1, q2, e1, e2, s1, s2, rfl⟩ := eqD_some e3
    exact ⟨q1, q2, hp.1.dp hK S e1, hp.2.1.dp hK S e2, s1, s2, fin_sh S pq (.bl _)⟩
theorem Pk.isNon {G H : Hp} {v : V} {d : D} (h : Pk Y G H v d) : decide (v = .non) = isNone d := by
  rcases h with h | ⟨a, rfl, t⟩
  · cases h <;> rfl
  · cases t <;> rfl
theorem p_isN : P1 Y W .isN (fun x H Q => Q (.bl (decide (x = .non))) H) := .mk fun G R H σ en x ds p Q S hp e pq => by
  obtain ⟨d, rfl, e⟩ := a1_some (show a1 _ ds = some p from e)
  cases e
  rw [hp.1.isNon]
  exact fin_sh S pq (.bl _)
theorem p_notN : P1 Y W .notN (fun x H Q => Q (.bl (!decide (x = .non))) H) := .mk fun G R H σ en x ds p Q S hp e pq => by
  obtain ⟨d, rfl, e⟩ := a1_some (show a1 _ ds = some p from e)
  cases e
  rw [hp.1.isNon]
  exact fin_sh S pq (.bl _)

/-! ### places, slices, lengths -/
theorem RepL.atI {G : Hp} {vs : List V} {ds : List D} {i : Int} {d : D} (r : RepL Y G vs ds) (e : atI ds i = some d) : ∃ v, L2.atI vs i = some v ∧ Rep Y G v d := by
  unfold L2.atI at e ⊢
  rw [r.length]
  cases q : ixN ds.length i with
  | none => rw [q] at e; cases e
  | some j => rw [q] at e; exact r.get e
theorem p_idx (hK : X.K = Y.K) : P2 Y W .idx (rIx X.K) := .mk fun G R H σ en x y ds p Q S hp e pq => by
  have e : rIdx3 ds = some p := e
  unfold rIdx3 at e
  split at e
  · split at e
    · rename_i d e2
      cases e
      obtain ⟨a, vs, rfl, h1, r1⟩ := hp.1.tup
      obtain ⟨v, e3, r3⟩ := r1.atI e2
      exact .inr (.inl ⟨a, vs, _, v, rfl, hp.2.1.int, by rw [hK]; exact Same.seqT S.gH h1, e3, fin_sh S pq r3⟩)
    · cases e
  · split at e
    · rename_i d e2
      cases e
      obtain ⟨a, vs, rfl, h1, r1⟩ := hp.1.lst S
      obtain ⟨v, e3, r3⟩ := r1.atI e2
      exact .inl ⟨a, vs, _, v, rfl, hp.2.1.int, .inl (.inl h1), e3, fin_sh S pq r3⟩
    · cases e
  · cases e
theorem RepL.cut {G : Hp} {vs : List V} {ds : List D} (r : RepL Y G vs ds) (lo hi : Option Int) : RepL Y G (cutV vs lo hi) (L3.cut ds lo hi) := by
  unfold cutV L3.cut
  rw [r.length]
  exact (r.drop _).take _
def rSl (K : PySem.W.Frag) : V → Option Int → Option Int → Hp → VK → Prop := fun x lo hi H Q => rSlL K x lo hi H Q ∨ rSlA K x lo hi H Q
theorem sl_any : SlR X (rSl X.K) := sl_list.or sl_tupA
theorem sIx_self {α : Type} (xs : List α) (lo hi : Option Int) (h : HT.sIx xs.length 0 lo = 0 ∧ HT.sIx xs.length xs.length hi = xs.length) : L3.cut xs lo hi = xs := by
  unfold L3.cut
  rw [h.1, h.2]
  simp
theorem slice_ok (hK : X.K = Y.K) {G R H : Hp} {σ : L2.St} {en : En} {x : V} {d : D} {lo hi : Option Int} {p : D × Bool} {Q : VK} (S : Sep Y G R H σ en) (h : Pk Y G H x d) (e : slice3 d lo hi = some p) (pq : Pst Y W (okV Y) G R σ en (.ok p en) Q) : rSl X.K x lo hi H Q := by
  unfold slice3 at e
  split at e
  · rename_i xs
    cases e
    obtain ⟨a, vs, rfl, h1, r1⟩ := h.tup
    refine .inr ⟨a, vs, rfl, by rw [hK]; exact Same.seqT S.gH h1, fun z => ?_, fun _ q hq => ?_⟩
    · rw [sIx_self xs lo hi (by rw [← r1.length]; exact z)] at pq
      exact fin_sh S pq (.tup h1 r1)
    · exact fin_newG S pq hq (.tup (.inl (.inl upd_same)) ((r1.cut lo hi).mono (same_new (S.gnone hq))))
  · cases e
    obtain ⟨a, vs, rfl, h1, r1⟩ := h.lst S
    exact .inl ⟨a, vs, rfl, .inl (.inl h1), fun q hq => fin_own S pq hq (.lst upd_same (r1.cut lo hi))⟩
  · cases e
    obtain ⟨a, vs, rfl, h1, r1⟩ := h.fls
    exact .inl ⟨a, vs, rfl, by rw [hK]; exact S.gH.seq h1, fun q hq => fin_own S pq hq (.lst upd_same (r1.cut lo hi))⟩
  · cases e
/-- one argument, by a built-in -/
abbrev C1 (Y : Wd) (W : WX) (o : Op) (r : List V → Hp → VK → Prop) : Prop := PrimN Y W o r
theorem C1.mk {o : Op} {f : D → Rn} {r : List V → Hp → VK → Prop} (h0 : ∀ ds, o.run ds = a1 f ds) (h : ∀ (G R H : Hp) (σ : L2.St) (en : En) (x : V) (d : D) (p : D × Bool) (Q : VK), Sep Y G R H σ en → Pk Y G H x d → f d = some p → Pst Y W (okV Y) G R σ en (.ok p en) Q → r [x] H Q) : PrimN Y W o r :=
  fun G R H σ en vs ds p Q S hp e pq => by
    rw [h0] at e
    obtain ⟨d, rfl, e⟩ := a1_some e
    obtain ⟨v, rfl, hv⟩ := pk1 hp
    exact h G R H σ en v d p Q S hv e pq
theorem p_len (hK : X.K = Y.K) : PrimN Y W .len (fun xs H Q => ∃ q ys, xs = [.ref q] ∧ (SqL X.K H q ys ∨ SqT X.K H q ys) ∧ Q (.int ys.length) H) := C1.mk (fun _ => rfl) fun G R H σ en x d p Q S hp e pq => by
  unfold rLen3 at e
  split at e
  · cases e
    obtain ⟨a, vs, rfl, h1, r1⟩ := hp.tup
    exact ⟨a, vs, rfl, .inr (by rw [hK]; exact Same.seqT S.gH h1), fin_sh S pq (by rw [r1.length]; exact .int _)⟩
  · cases e
    obtain ⟨a, vs, rfl, h1, r1⟩ := hp.lst S
    exact ⟨a, vs, rfl, .inl (.inl (.inl h1)), fin_sh S pq (by rw [r1.length]; exact .int _)⟩
  · cases e
    obtain ⟨a, vs, rfl, h1, r1⟩ := hp.fls
    exact ⟨a, vs, rfl, .inl (by rw [hK]; exact S.gH.seq h1), fin_sh S pq (by rw [r1.length]; exact .int _)⟩
  · cases e
theorem p_abs : PrimN Y W .abs (fun xs H Q => ∃ i, xs = [.int i] ∧ Q (.int (if i < 0 then -i else i)) H) := fun G R H σ en vs ds p Q S hp e pq => by
  obtain ⟨i, rfl, e⟩ := i1_some (show i1 _ ds = some p from e)
  cases e
  obtain ⟨v, rfl, hv⟩ := pk1 hp
  exact ⟨i, by rw [hv.int], fin_sh S pq (.int _)⟩
theorem int_some {ds : List D} {p : D × Bool} (e : Op.int.run ds = some p) : (∃ i, ds = [.int i] ∧ p = (.int i, false)) ∨ ∃ b : Bool, ds = [.bl b] ∧ p = (.int (if b then 1 else 0), false) := by
  unfold Op.run at e
  simp only at e
  split at e
  · cases e; exact .inl ⟨_, rfl, rfl⟩
  · cases e; exact .inr ⟨_, rfl, rfl⟩
  · cases e
theorem p_int : PrimN Y W .int (fun xs H Q => (∃ i, xs = [.int i] ∧ Q (.int i) H) ∨ ∃ k, xs = [.bl k] ∧ Q (.int (if k then 1 else 0)) H) := fun G R H σ en vs ds p Q S hp e pq => by
  rcases int_some e with ⟨i, rfl, rfl⟩ | ⟨b, rfl, rfl⟩
  · obtain ⟨v, rfl, hv⟩ := pk1 hp
    exact .inl ⟨i, by rw [hv.int], fin_sh S pq (.int _)⟩
  · obtain ⟨v, rfl, hv⟩ := pk1 hp
    exact .inr ⟨b, by rw [hv.bl], fin_sh S pq (.int _)⟩
theorem p_min2 : PrimN Y W .min2 (fun xs H Q => ∃ i j, xs = [.int i, .int j] ∧ Q (.int (if j < i then j else i)) H) := fun G R H σ en vs ds p Q S hp e pq => by
  obtain ⟨i, j, rfl, e⟩ := i2_some (show i2 _ ds = some p from e)
  cases e
  obtain ⟨v, u, rfl, hv, hu⟩ := pk2 hp
  exact ⟨i, j, by rw [hv.int, hu.int], fin_sh S pq (.int _)⟩
theorem p_max2 : PrimN Y W .max2 (fun xs H Q => ∃ i j, xs = [.int i, .int j] ∧ Q (.int (if j > i then j else i)) H) := fun G R H σ en vs ds p Q S hp e pq => by
  obtain ⟨i, j, rfl, e⟩ := i2_some (show i2 _ ds = some p from e)
  cases e
  obtain ⟨v, u, rfl, hv, hu⟩ := pk2 hp
  exact ⟨i, j, by rw [hv.int, hu.int], fin_sh S pq (.int _)⟩
/-- one list, by a built-in -/
theorem C1.lst {o : Op} {f : List D → Rn} {r : List V → Hp → VK → Prop} (h0 : ∀ ds, o.run ds = l1 f ds) (h : ∀ (G R H : Hp) (σ : L2.St) (en : En) (a : Addr) (vs : List V) (ds : List D) (p : D × Bool) (Q : VK), Sep Y G R H σ en → H a = some (.lst vs) → RepL Y G vs ds → f ds = some p → Pst Y W (okV Y) G R σ en (.ok p en) Q → r [.ref a] H Q) : PrimN Y W o r :=
  fun G R H σ en vs ds p Q S hp e pq => by
    rw [h0] at e
    obtain ⟨xs, rfl, e⟩ := l1_some e
    obtain ⟨v, rfl, hv⟩ := pk1 hp
    obtain ⟨a, us, rfl, h1, r1⟩ := hv.lst S
    exact h G R H σ en a us xs p Q S h1 r1 e pq
theorem map_some {α β : Type} {o : Option α} {f : α → β} {b : β} (e : o.map f = some b) : ∃ a, o = some a ∧ f a = b := by
  cases o with
  | none => cases e
  | some a => cases e; exact ⟨a, rfl, rfl⟩
/-- one list or tuple, by a built-in -/
theorem C1.seq {o : Op} {f : List D → Rn} {r : List V → Hp → VK → Prop} (hK : X.K = Y.K) (h0 : ∀ ds, o.run ds = a1 (fun d => match seqD2 d with | some xs => f xs | none => none) ds)
    (h : ∀ (G R H : Hp) (σ : L2.St) (en : En) (a : Addr) (vs : List V) (ds : List D) (p : D × Bool) (Q : VK), Sep Y G R H σ en → (SqL X.K H a vs ∨ SqT X.K H a vs) → RepL Y G vs ds → f ds = some p → Pst Y W (okV Y) G R σ en (.ok p en) Q → r [.ref a] H Q) : PrimN Y W o r :=
  C1.mk h0 fun G R H σ en x d p Q S hp e pq => by
    cases d with
    | tup xs =>
      obtain ⟨a, us, rfl, h1, r1⟩ := hp.tup
      exact h G R H σ en a us xs p Q S (.inr (by rw [hK]; exact Same.seqT S.gH h1)) r1 e pq
    | lst xs =>
      obtain ⟨a, us, rfl, h1, r1⟩ := hp.lst S
      exact h G R H σ en a us xs p Q S (.inl (.inl (.inl h1))) r1 e pq
    | _ => cases e
theorem p_sum (hK : X.K = Y.K) : PrimN Y W .sum (rSumLT X.K) := C1.seq hK (fun _ => rfl) fun G R H σ en a vs ds p Q S h r e pq => by
  obtain ⟨b, e9, rfl⟩ := oI_some e
  obtain ⟨is, e8, rfl⟩ := map_some e9
  have := r.asI e8
  subst this
  exact ⟨a, is, rfl, h, fin_sh S pq (.int _)⟩
theorem p_any : PrimN Y W .any (rAny X.K) := C1.lst (fun _ => rfl) fun G R H σ en a vs ds p Q S h r e pq => by
  obtain ⟨b, e9, rfl⟩ := oB_some e
  obtain ⟨is, e8, rfl⟩ := map_some e9
  have := r.asB e8
  subst this
  exact ⟨a, is, rfl, .inl (.inl h), fin_sh S pq (.bl _)⟩
theorem p_all : PrimN Y W .all (rAll X.K) := C1.lst (fun _ => rfl) fun G R H σ en a vs ds p Q S h r e pq => by
  obtain ⟨b, e9, rfl⟩ := oB_some e
  obtain ⟨is, e8, rfl⟩ := map_some e9
  have := r.asB e8
  subst this
  exact ⟨a, is, rfl, .inl (.inl h), fin_sh S pq (.bl _)⟩
theorem minL_ok : ∀ {l : List Int} {m : Int}, minL l = some m → m ∈ l ∧ ∀ y ∈ l, m ≤ y
  | [], _, e => by cases e
  | a :: r, m, e => by
    unfold minL at e
    split at e
    · rename_i e2
      cases e
      have : r = [] := by
        cases r with
        | nil => rfl
        | cons b r => unfold minL at e2; split at e2 <;> cases e2
      subst this
      simp
    · rename_i b e2
      cases e
      obtain ⟨h1, h2⟩ := minL_ok e2
      refine ⟨?_, fun y hy => ?_⟩
      · split
        · exact List.mem_cons_self
        · exact List.mem_cons_of_mem _ h1
      · rcases List.mem_cons.mp hy with rfl | hy
        · split <;> omega
        · have := h2 y hy
          split <;> omega
theorem maxL_ok : ∀ {l : List Int} {m : Int}, maxL l = some m → m ∈ l ∧ ∀ y ∈ l, y ≤ m
  | [], _, e => by cases e
  | a :: r, m, e => by
    unfold maxL at e
    split at e
    · rename_i e2
      cases e
      have : r = [] := by
        cases r with
        | nil => rfl
        | cons b r => unfold maxL at e2; split at e2 <;> cases e2
      subst this
      simp
    · rename_i b e2
      cases e
      obtain ⟨h1, h2⟩ := maxL_ok e2
      refine ⟨?_, fun y hy => ?_⟩
      · split
        · exact List.mem_cons_self
        · exact List.mem_cons_of_mem _ h1
      · rcases List.mem_cons.mp hy with rfl | hy
        · split <;> omega
        · have := h2 y hy
          split <;> omega
theorem p_min (hK : X.K = Y.K) : PrimN Y W .min (rMinLT X.K) := C1.seq hK (fun _ => rfl) fun G R H σ en a vs ds p Q S h r e pq => by
  obtain ⟨b, e9, rfl⟩ := oI_some e
  cases e2 : asI ds with
  | none => rw [e2] at e9; cases e9
  | some is =>
    rw [e2] at e9
    have e : minL is = some b := e9
    have := r.asI e2
    subst this
    obtain ⟨h1, h2⟩ := minL_ok e
    refine ⟨a, is, rfl, h, by cases is with | nil => cases e | cons => simp, fun m hm hle => ?_⟩
    have e3 : m = b := by
      have q1 := hle b h1
      have q2 := h2 m hm
      omega
    rw [e3]
    exact fin_sh S pq (.int _)
theorem p_max (hK : X.K = Y.K) : PrimN Y W .max (rMaxLT X.K) := C1.mk (fun _ => rfl) fun G R H σ en x d p Q S hp e pq => by
  have key : ∀ (ds : List D) (vs : List V) (a : Addr), RepL Y G vs ds → (SqL X.K H a vs ∨ SqT X.K H a vs) → oI ((asI ds).bind maxL) = some p → x = .ref a → rMaxLT X.K [x] H Q := by
    intro ds vs a r hs e8 ex
    obtain ⟨b, e9, rfl⟩ := oI_some e8
    cases e2 : asI ds with
    | none => rw [e2] at e9; cases e9
    | some is =>
      rw [e2] at e9
      have e : maxL is = some b := e9
      have := r.asI e2
      subst this
      obtain ⟨h1, h2⟩ := maxL_ok e
      refine ⟨a, is, by rw [ex], hs, by cases is with | nil => cases e | cons => simp, fun m hm hle => ?_⟩
      have e3 : m = b := by
        have q1 := hle b h1
        have q2 := h2 m hm
        omega
      rw [e3]
      exact fin_sh S pq (.int _)
  cases d with
  | lst xs =>
    obtain ⟨a, vs, rfl, h1, h2⟩ := hp.lst S
    exact key xs vs a h2 (.inl (.inl (.inl h1))) e rfl
  | tup xs =>
    obtain ⟨a, vs, rfl, h1, h2⟩ := hp.tup
    exact key xs vs a h2 (.inr (by rw [hK]; exact Same.seqT S.gH h1)) e rfl
  | _ => cases e
theorem p_tupOf (hK : X.K = Y.K) : PrimN Y W .tupOf (fun xs H Q => ∃ q ys, xs = [.ref q] ∧ ((SqL X.K H q ys ∧ ∀ l, H l = none → Q (.ref l) (upd H l (.tup ys))) ∨ (SqT X.K H q ys ∧ Q (.ref q) H))) := C1.mk (fun _ => rfl) fun G R H σ en x d p Q S hp e pq => by
  split at e
  · rename_i xs e2
    cases e
    unfold seqD2 at e2
    split at e2
    · cases e2
      obtain ⟨a, vs, rfl, h1, r1⟩ := hp.tup
      exact ⟨a, vs, rfl, .inr ⟨by rw [hK]; exact Same.seqT S.gH h1, fin_sh S pq (.tup h1 r1)⟩⟩
    · cases e2
      obtain ⟨a, vs, rfl, h1, r1⟩ := hp.lst S
      exact ⟨a, vs, rfl, .inl ⟨.inl (.inl h1), fun q hq => fin_newG S pq hq (.tup (.inl (.inl upd_same)) (r1.mono (same_new (S.gnone hq))))⟩⟩
    · cases e2
  · cases e
theorem p_lstOf (hK : X.K = Y.K) : PrimN Y W .lstOf (fun xs H Q => ∃ q ys, xs = [.ref q] ∧ (SqL X.K H q ys ∨ SqT X.K H q ys) ∧ ∀ l, H l = none → Q (.ref l) (upd H l (.lst ys))) := C1.mk (fun _ => rfl) fun G R H σ en x d p Q S hp e pq => by
  split at e
  · rename_i xs e2
    cases e
    unfold seqD2 at e2
    split at e2
    · cases e2
      obtain ⟨a, vs, rfl, h1, r1⟩ := hp.tup
      exact ⟨a, vs, rfl, .inr (by rw [hK]; exact Same.seqT S.gH h1), fun q hq => fin_own S pq hq (.lst upd_same r1)⟩
    · cases e2
      obtain ⟨a, vs, rfl, h1, r1⟩ := hp.lst S
      exact ⟨a, vs, rfl, .inl (.inl (.inl h1)), fun q hq => fin_own S pq hq (.lst upd_same r1)⟩
    · cases e2
  · cases e
theorem p_dnew : PrimN Y W .dnew (fun xs H Q => ∀ q, H q = none → Q (.ref q) (upd H q (.dK []))) := fun G R H σ en vs ds p Q S hp e pq q hq => by
  cases ds with
  | nil =>
    cases (show some (D.dct [] [], true) = some p from e)
    exact fin_own S pq hq (.dct (kvs := []) upd_same rfl .nil)
  | cons d ds => cases (show (none : Rn) = some p from e)
end
end L3

/-! L3E: built-ins by name, displays, places, slices, chains, attributes, isinstance. -/
namespace L3
open PySem PySem.Spec PyProof.Rows L2
section
variable {X : Cx} {Y : Wd} {W : WX} {U : Ev} {a b c e : Expr} {a' b' c' : E} {es : List Expr} {as' : Es} {pos p p2 : Pos} {o : Op}

/-- what a reading of arguments gives to an operation -/
theorem args_op {r : List V → Hp → VK → Prop} (h : PrimN Y W o r) (hk : o.keeps = false) {σ : L2.St} {H : Hp} {Q : VK} (q : rdE Y W U (.op o as') σ H Q) : rdA Y W U as' σ H fun vs H1 => r vs H1 Q := by
  obtain ⟨G, R, en, S, p⟩ := q
  rw [evE_op] at p
  exact ⟨G, R, en, S, Pst.bind p fun as en1 vs H1 G1 _ s1 k1 S1 o1 p1 => prim_fin h S1 (avs := as) o1 p1 hk⟩
theorem args_opK {r : List V → Hp → VK → Prop} (h : PrimK Y W o r) (hk : o.keeps = true) {σ : L2.St} {H : Hp} {Q : VK} (q : rdE Y W U (.op o as') σ H Q) : rdA Y W U as' σ H fun vs H1 => r vs H1 Q := by
  obtain ⟨G, R, en, S, p⟩ := q
  rw [evE_op] at p
  exact ⟨G, R, en, S, Pst.bind p fun as en1 vs H1 G1 _ s1 k1 S1 o1 p1 => prim_finK h S1 (avs := as) o1 p1 hk⟩
/-- f(e, ..), a built-in -/
theorem s_callB {x : Str} {id : String} {r : List V → Hp → VK → Prop} (hc : CallR X (.builtin id) r) (hk : o.keeps = false) (h : PrimN Y W o r) (hm : X.mg x = none) (hv : bootBuiltins x = some (.builtin id)) (ha : PA X (e :: es) (rdA Y W U as')) (hg : Gl X x := by rfl)
    (hn : x ≠ "__name__" := by decide) (hdb : (x == ("__debug__" : Str)) = false := by decide)
    (he : starEach (e :: es) X.env = (false, eval e X.env) :: starEach es X.env := by rfl) (hpl : (backTo pos (starEach es X.env)).any (·.1) = false := by rfl) : PE X (.Call (.Name x p) (e :: es) [] pos) (rdE Y W U (.op o as')) :=
  (pe_callB hc hg hm hv ha hn hdb he hpl).imp fun _ _ _ q => args_op h hk q
theorem s_callTy {x : Str} {T : String} {r : List V → Hp → VK → Prop} (hc : CallR X (.type T) r) (hk : o.keeps = false) (h : PrimN Y W o r) (hm : X.mg x = none) (hv : bootBuiltins x = some (.type T)) (ha : PA X (e :: es) (rdA Y W U as')) (hg : Gl X x := by rfl)
    (hn : x ≠ "__name__" := by decide) (hdb : (x == ("__debug__" : Str)) = false := by decide)
    (he : starEach (e :: es) X.env = (false, eval e X.env) :: starEach es X.env := by rfl) (hpl : (backTo pos (starEach es X.env)).any (·.1) = false := by rfl) : PE X (.Call (.Name x p) (e :: es) [] pos) (rdE Y W U (.op o as')) :=
  (pe_callTy hc hg hm hv ha hn hdb he hpl).imp fun _ _ _ q => args_op h hk q
/-! ### displays -/
theorem p_tup : PrimK Y W .tup (fun xs H Q => xs.length ≤ sizeLine ∧ ∀ q, H q = none → Q (.ref q) (upd H q (.tup xs))) := fun G R H σ en vs ds p Q S r e pq => by
  obtain ⟨f, rfl⟩ := gd_some (show gd _ _ = some p from e)
  exact ⟨by rw [r.length]; exact fit_le f, fun q hq => fin_newG S pq hq (.tup (.inl (.inl upd_same)) (r.mono (same_new (S.gnone hq))))⟩
theorem p_lst : PrimK Y W .lst (fun xs H Q => xs.length ≤ sizeLine ∧ ∀ q, H q = none → Q (.ref q) (upd H q (.lst xs))) := fun G R H σ en vs ds p Q S r e pq => by
  obtain ⟨f, rfl⟩ := gd_some (show gd _ _ = some p from e)
  exact ⟨by rw [r.length]; exact fit_le f, fun q hq => fin_own S pq hq (.lst upd_same r)⟩
theorem s_tup {k : Nat} (ha : PA X es (rdA Y W U as')) : PE X (.Tuple es k pos) (rdE Y W U (.op .tup as')) := (pe_tup ha).imp fun _ _ _ q => args_opK p_tup rfl q
theorem s_lst (ha : PA X es (rdA Y W U as')) : PE X (.List es pos) (rdE Y W U (.op .lst as')) := (pe_lst ha).imp fun _ _ _ q => args_opK p_lst rfl q
/-! ### o[i], o[i:j] -/
theorem s_idx (hK : X.K = Y.K) (ha : PE X a (rdX Y W U a')) (hb : PE X b (rdX Y W U b')) (hs : PlainIx b := by intro _ _; rfl) : PE X (.Subscript a b pos) (rdE Y W U (.op .idx (.cons a' (.cons b' .nil)))) := by
  refine (pe_ix ix_seq ha hb hs).imp fun σ H Q ⟨G, R, en, S, p⟩ => ⟨G, R, en, S, ?_⟩
  rw [evE_op2] at p
  refine Pst.bind p fun x en1 v H1 G1 _ s1 k1 S1 o1 p1 => rd.mk S1 (Pst.bind p1 fun y en2 u H2 G2 _ s2 k2 S2 o2 p2 => ?_)
  exact prim_fin (p_idx hK) S2 (vs := [v, u]) (avs := [x, y]) ⟨Aok.mono o1 s2, o2, trivial⟩ p2 rfl v u rfl
def okI : Hp → Hp → Hp → L2.St → En → Int → Int → Prop := fun _ _ _ _ _ a b => b = a
theorem toI_bind {G R : Hp} {σ : L2.St} {en : En} {r : Rs (D × Bool)} {Q : Int → Hp → Prop} (h : Pst Y W okI G R σ en (toI r) Q) : Pst Y W (okV Y) G R σ en r fun v H1 => ∃ c, v = .int c ∧ Q c H1 := by
  unfold toI at h
  refine Pst.bind h fun p en1 v H1 G1 _ s k S o p1 => ?_
  obtain ⟨d, own⟩ := p
  cases d with
  | int b =>
    cases own with
    | false =>
      have o : Rep Y G1 v (.int b) := o
      cases o
      exact ⟨b, rfl, p1 b H1 G1 (Same.refl _) (Keep.refl _ _) S rfl⟩
    | true =>
      obtain ⟨a, _, ⟨_, _, t⟩, _⟩ := o
      cases t
  | _ => exact p1.elim
theorem sl_fin (hK : X.K = Y.K) {G R H : Hp} {σ : L2.St} {en : En} {av : Av} {v : V} {Q : VK} {lo hi : Option Int} (S : Sep Y G R H σ en) (o : Aok Y G σ en v av) (p : Pst Y W (okV Y) G R σ en (slFin lo hi av en) Q) : rSl X.K v lo hi H Q := by
  unfold slFin at p
  split at p
  · exact p.elim
  · rename_i d e
    split at p
    · rename_i q e3
      exact slice_ok hK S (pk_of S o e) e3 p
    · exact p.elim
theorem s_sl0 (hK : X.K = Y.K) (ha : PE X a (rdX Y W U a')) : PE X (.Subscript a (.Slice none none none p2) pos) (rdE Y W U (.sl0 a')) := by
  refine (pe_slice sl_any ha po_none po_none).imp fun σ H Q ⟨G, R, en, S, p⟩ => ⟨G, R, en, S, ?_⟩
  rw [evE] at p
  exact Pst.bind p fun x en1 v H1 G1 _ s1 k1 S1 o1 p1 => sl_fin hK S1 o1 p1
theorem s_slA (hK : X.K = Y.K) (ha : PE X a (rdX Y W U a')) (hb : PE X b (rdE Y W U b')) : PE X (.Subscript a (.Slice (some b) none none p2) pos) (rdE Y W U (.slA a' b')) := by
  refine (pe_slice sl_any ha (po_some hb) po_none).imp fun σ H Q ⟨G, R, en, S, p⟩ => ⟨G, R, en, S, ?_⟩
  rw [evE] at p
  exact Pst.bind p fun x en1 v H1 G1 _ s1 k1 S1 o1 p1 => rd.mk S1 (toI_bind (Pst.bind p1 fun i en2 j H2 G2 _ s2 k2 S2 o2 p2 => by
    cases (show j = i from o2)
    exact sl_fin hK S2 (Aok.mono o1 s2) p2))
theorem s_slB (hK : X.K = Y.K) (ha : PE X a (rdX Y W U a')) (hb : PE X b (rdE Y W U b')) : PE X (.Subscript a (.Slice none (some b) none p2) pos) (rdE Y W U (.slB a' b')) := by
  refine (pe_slice sl_any ha po_none (po_some hb)).imp fun σ H Q ⟨G, R, en, S, p⟩ => ⟨G, R, en, S, ?_⟩
  rw [evE] at p
  exact Pst.bind p fun x en1 v H1 G1 _ s1 k1 S1 o1 p1 => rd.mk S1 (toI_bind (Pst.bind p1 fun i en2 j H2 G2 _ s2 k2 S2 o2 p2 => by
    cases (show j = i from o2)
    exact sl_fin hK S2 (Aok.mono o1 s2) p2))
theorem s_slC (hK : X.K = Y.K) (ha : PE X a (rdX Y W U a')) (hb : PE X b (rdE Y W U b')) (hc : PE X c (rdE Y W U c')) : PE X (.Subscript a (.Slice (some b) (some c) none p2) pos) (rdE Y W U (.slC a' b' c')) := by
  refine (pe_slice sl_any ha (po_some hb) (po_some hc)).imp fun σ H Q ⟨G, R, en, S, p⟩ => ⟨G, R, en, S, ?_⟩
  rw [evE] at p
  exact Pst.bind p fun x en1 v H1 G1 _ s1 k1 S1 o1 p1 => rd.mk S1 (toI_bind (Pst.bind p1 fun i en2 j H2 G2 _ s2 k2 S2 o2 p2 => by
    cases (show j = i from o2)
    exact rd.mk S2 (toI_bind (Pst.bind p2 fun i2 en3 j2 H3 G3 _ s3 k3 S3 o3 p3 => by
      cases (show j2 = i2 from o3)
      exact sl_fin hK S3 (Aok.mono (en := en2) (en' := en3) (Aok.mono (en' := en2) o1 s2) s3) p3))))
theorem avDs_1 {en : En} {x : Av} {ds : List D} (e : avDs en [x] = some ds) : ∃ d, avD en x = some d ∧ ds = [d] := by
  simp only [avDs] at e
  cases e1 : avD en x with
  | none => rw [e1] at e; cases e
  | some d => rw [e1] at e; cases e; exact ⟨d, rfl, rfl⟩
/-! ### a < b < c -/
theorem opB_fin {r : R2} (hk : o.keeps = false) (h : P2 Y W o r) {G R H : Hp} {σ : L2.St} {en : En} {x y : Av} {v u : V} {Q : Bool → Hp → Prop} (S : Sep Y G R H σ en) (o1 : Aok Y G σ en v x) (o2 : Aok Y G σ en u y)
    (p : Pst Y W okB G R σ en (toB (opFin o [x, y] en)) Q) : r v u H fun z H1 => ∃ k, z = .bl k ∧ Q k H1 :=
  prim_fin h S (vs := [v, u]) (avs := [x, y]) ⟨o1, o2, trivial⟩ (toB_bind p) hk v u rfl
theorem s_chn {op op2 : CmpOp} {o2 : Op} {r r' : R2} (ho : OpR X (compareOp op) r) (ho' : OpR X (compareOp op2) r') (hk : o.keeps = false) (hk2 : o2.keeps = false) (h : P2 Y W o r) (h' : P2 Y W o2 r')
    (ha : PE X a (rdX Y W U a')) (hb : PE X b (rdX Y W U b')) (hc : PE X c (rdX Y W U c')) (hm : lastMarks [op, op2] [b, c] = false := by rfl) :
    PE X (.Compare a [op, op2] [b, c] pos) (rdE Y W U (.chn o o2 a' b' c')) := by
  refine (pe_chain ho ho' ha hb hc hm).imp fun σ H Q ⟨G, R, en, S, p⟩ => ⟨G, R, en, S, ?_⟩
  rw [evE] at p
  refine Pst.bind p fun x en1 v H1 G1 _ s1 k1 S1 o1 p1 => rd.mk S1 (Pst.bind p1 fun y en2 u H2 G2 _ s2 k2 S2 o2' p2 => ?_)
  have q : Pst Y W okB G2 R σ en2 (toB (opFin o [x, y] en2)) fun k H3 => if k = true then rdX Y W U c' σ H3 fun w H4 => r' u w H4 Q else Q (.bl false) H3 := by
    refine Pst.bind p2 fun k en3 k' H3 G3 _ s3 k3 S3 o3 p3 => ?_
    cases (show k' = k from o3)
    cases k with
    | true =>
      rw [if_pos rfl] at p3 ⊢
      exact rd.mk S3 (Pst.bind p3 fun z en4 w H4 G4 _ s4 k4 S4 o4 p4 => prim_fin h' S4 (vs := [u, w]) (avs := [y, z]) ⟨Aok.mono (en := en3) (en' := en4) (Aok.mono (en' := en3) o2' s3) s4, o4, trivial⟩ p4 hk2 u w rfl)
    | false =>
      rw [if_neg (by decide)] at p3 ⊢
      exact p3 (.bl false) H3 G3 (Same.refl _) (Keep.refl _ _) S3 (.bl false)
  exact opB_fin hk h S2 (Aok.mono (en' := en2) o1 s2) o2' q
/-! ### o.f -/
theorem lookup_rep {G : Hp} : ∀ {fs : List (Str × V)} {ns : List Str} {ds : List D} {f : Str} {d : D}, fs.map (·.1) = ns → RepL Y G (fs.map (·.2)) ds → (ns.zip ds).lookup f = some d → ∃ v, fs.lookup f = some v ∧ Rep Y G v d
  | [], ns, ds, f, d, e, r, l => by
    subst e
    simp at l
  | (g, v) :: fs, ns, ds, f, d, e, r, l => by
    subst e
    cases r with | cons r1 r2 =>
      simp only [List.map_cons, List.zip_cons_cons, List.lookup_cons] at l ⊢
      cases q : f == g with
      | true => rw [q] at l; cases l; exact ⟨v, rfl, r1⟩
      | false => rw [q] at l; exact lookup_rep rfl r2 l
theorem s_fld {f : Str} (hcl : ∀ c, Y.ok c → Cls X.K (Y.ca c) ∧ NoAttr X.K (Y.ca c) f) (ha : PE X a (rdX Y W U a')) (hb : attributeBase a f X.env (eval a X.env) = eval a X.env := by rfl) : PE X (.Attribute a f pos) (rdE Y W U (.op (.fld f) (.cons a' .nil))) := by
  refine (pe_fld ha hb).imp fun σ H Q ⟨G, R, en, S, p⟩ => ⟨G, R, en, S, ?_⟩
  rw [evE_op1] at p
  refine Pst.bind p fun x en1 v H1 G1 _ s1 k1 S1 o1 p1 => ?_
  unfold opFin at p1
  rw [show (Op.fld f).keeps = false from rfl] at p1
  split at p1
  · exact p1.elim
  · rename_i ds e
    obtain ⟨d, e1, rfl⟩ := avDs_1 e
    have pk := pk_of S1 o1 e1
    split at p1
    · rename_i q e3
      obtain ⟨d', e4, e5⟩ := a1_some (show a1 (fldD f) [d] = some q from e3)
      cases e4
      unfold fldD at e5
      split at e5
      · rename_i c ns xs
        split at e5
        · rename_i d2 e6
          cases e5
          obtain ⟨ad, dx, fs, rfl, h0, h1, h2, h3⟩ := pk.obj S1
          obtain ⟨w, h4, h5⟩ := lookup_rep h2 h3 e6
          obtain ⟨c1, c2⟩ := hcl c h0
          exact ⟨ad, _, dx, fs, w, rfl, h1, c1, c2, h4, fin_sh S1 p1 h5⟩
        · cases e5
      · cases e5
    · exact p1.elim
theorem s_not (ha : PE X a (rdE Y W U a')) : PE X (.UnaryOp .Not a pos) (rdE Y W U (.nt a')) := by
  refine (pe_not ha).imp fun σ H Q ⟨G, R, en, S, p⟩ => ⟨G, R, en, S, ?_⟩
  rw [evE] at p
  refine toB_bind (Q := fun c H1 => Q (.bl (!c)) H1) (Pst.bind p fun k en1 v H1 G1 _ s1 k1 S1 o1 p1 => ?_)
  cases (show v = k from o1)
  exact p1 _ H1 G1 (Same.refl _) (Keep.refl _ _) S1 (.bl _)
theorem t_not (ha : PT X a (rdT Y W U a')) : PT X (.UnaryOp .Not a pos) (rdT Y W U (.nt a')) := by
  refine (pt_not ha).imp fun σ H Q ⟨G, R, en, S, p⟩ => ⟨G, R, en, S, ?_⟩
  dsimp only at p
  rw [evE, toB, Rs.bind_assoc] at p
  refine Pst.bind p fun k en1 v H1 G1 _ s1 k1 S1 o1 p1 => ?_
  cases (show v = k from o1)
  exact p1 _ H1 G1 (Same.refl _) (Keep.refl _ _) S1 rfl
/-! ### isinstance -/
def tyN : Ty → String
  | .int => "int" | .bool => "bool" | .str => "str" | .tup => "tuple" | .lst => "list" | .dct => "dict" | .cls _ => ""
def dN : D → Option String
  | .non => some "NoneType" | .bl _ => some "bool" | .int _ => some "int" | .str _ => some "str" | .tup _ => some "tuple" | .lst _ => some "list" | .dct _ _ => some "dict" | _ => none
/-- a class in an isinstance: a built-in one, or the program's own -/
inductive TyV (Y : Wd) : Ty → Value → Prop
  | bi {t : Ty} (h : ∀ c, t ≠ .cls c) : TyV Y t (.type (tyN t))
  | own (c : Nat) : Y.ok c → TyV Y (.cls c) (.ref (Y.ca c))
/-- what the program's classes say of isinstance -/
structure IsC (Y : Wd) (K : PySem.W.Frag) : Prop where
  ins : ∀ c, Y.ok c → Cls K (Y.ca c) ∧ PySem.W.findIn K (.ref (Y.ca c)) "__class__" = some (some (.builtin "object.__class__")) ∧ PySem.W.specialIn K (.builtin "object.__class__") "__get__" = some (some (.builtin "getset_descriptor.__get__")) ∧
    PySem.W.takesIn K (.builtin "object.__class__") = some true ∧ PySem.W.mroIn K (Y.ca c) (.type "object") = some true
  kit : ∀ t c d, Y.ok c → dN d = some t → PySem.W.kitOne K (.type t) (.ref (Y.ca c)) = some false
  own : ∀ c c', Y.ok c → Y.ok c' → PySem.W.kitOne K (.ref (Y.ca c)) (.ref (Y.ca c')) = some (decide (c' = c))
  bi : ∀ c t, Y.ok c → (∀ c', t ≠ .cls c') → PySem.W.kitOne K (.ref (Y.ca c)) (.type (tyN t)) = some false
theorem kit_bi {d : D} {t : Ty} {n : String} {r : Bool} (h : ∀ c, t ≠ .cls c) (e : dN d = some n) (q : isTy t d = some r) (K : PySem.W.Frag) : PySem.W.kitOne K (.type n) (.type (tyN t)) = some r := by
  cases d <;> cases e <;> cases t <;> first | (cases q; exact kit_ty (by decide +kernel)) | exact absurd rfl (h _)
theorem kit_some {t : Ty} {u : Value} {d : D} {r : Bool} {n : String} {K : PySem.W.Frag} (I : IsC Y K) (tv : TyV Y t u) (e : dN d = some n) (q : isTy t d = some r) : PySem.W.kitOne K (.type n) u = some r := by
  cases tv with
  | bi h => exact kit_bi h e q K
  | own c hc =>
    rw [I.kit n c d hc e]
    cases d <;> cases e <;> (cases q; rfl)
theorem kit_obj {t : Ty} {u : Value} {c : Nat} {ns : List Str} {xs : List D} {r : Bool} {K : PySem.W.Frag} (I : IsC Y K) (hc : Y.ok c) (tv : TyV Y t u) (q : isTy t (.obj c ns xs) = some r) : PySem.W.kitOne K (.ref (Y.ca c)) u = some r := by
  cases tv with
  | bi h =>
    rw [I.bi c t hc h]
    cases t <;> first | (cases q; rfl) | exact absurd rfl (h _)
  | own c' hc' =>
    rw [I.own c c' hc hc']
    cases q; rfl
theorem kitAny_some {K : PySem.W.Frag} {tt : Value} {d : D} (h : ∀ t u r, TyV Y t u → isTy t d = some r → PySem.W.kitOne K tt u = some r) : ∀ {ts : List Ty} {us : List Value} {r : Bool}, Paired (TyV Y) ts us → isTys ts d = some r → PySem.W.kitAny K tt us = some r
  | [], _, r, .nil, q => by cases q; rfl
  | t :: ts, _, r, .cons h1 h2, q => by
    simp only [isTys] at q
    split at q
    · rename_i a b e1 e2
      cases q
      have k1 := h _ _ _ h1 e1
      have k2 := kitAny_some h h2 e2
      cases a with
      | true => exact kitAny_cons k1 (fun z => nomatch z) (fun _ => rfl)
      | false => exact kitAny_cons k1 (fun _ => by simpa using k2) (fun z => nomatch z)
    · cases q
/-- the type of what stands there -/
theorem pk_ty {G R H : Hp} {σ : L2.St} {en : En} {v : V} {d : D} {n : String} {K : PySem.W.Frag} (hK : K = Y.K) (S : Sep Y G R H σ en) (h : Pk Y G H v d) (e : dN d = some n) : TyX K H v (.type n) := by
  cases d with
  | non => cases e; rcases h with h | ⟨a, _, t⟩; (cases h; exact .base .non); cases t
  | bl b => cases e; rw [h.bl]; exact .base (.bl b)
  | int b => cases e; rw [h.int]; exact .base (.int b)
  | str b => cases e; rw [h.str]; exact .base (.str b)
  | tup ds =>
    cases e
    obtain ⟨a, vs, rfl, h1, _⟩ := h.tup
    rcases Same.seqT S.gH h1 with (h1 | ⟨o, h1⟩) | ⟨o, its, k, h1, h2, _⟩
    · exact .base (.tup h1)
    · exact .fTuple h1
    · exact .kTuple (by rw [hK]; exact h1) h2
  | lst ds =>
    cases e
    obtain ⟨a, vs, rfl, h1, _⟩ := h.lst S
    exact .base (.lst h1)
  | dct ks ds =>
    cases e
    obtain ⟨a, vs, rfl, h1, _⟩ := h.dct S
    exact .base (.dK h1)
  | _ => cases e
theorem isTys_dN {d : D} : ∀ {ts : List Ty} {r : Bool}, ts ≠ [] → isTys ts d = some r → (∃ n, dN d = some n) ∨ ∃ c ns xs, d = .obj c ns xs
  | [], _, h, _ => absurd rfl h
  | t :: ts, r, _, q => by
    simp only [isTys] at q
    split at q
    · rename_i a b e1 e2
      cases d <;> first | exact .inl ⟨_, rfl⟩ | exact .inr ⟨_, _, _, rfl⟩ | (cases t <;> cases e1)
    · cases q
/-- isinstance(x, T) and isinstance(x, (T, ..)): cs the classes as they stand, us their values -/
theorem s_isi {t0 : Ty} {u : Value} {cv : V} {tc : Expr} (hK : X.K = Y.K) (I : IsC Y X.K) (hm : X.mg "isinstance" = none) (tv : TyV Y t0 u) (ck : ClsV cv u) (htc : PE X tc (tC cv)) (ha : PE X a (rdX Y W U a')) (hg : Gl X "isinstance" := by rfl)
    (he : starEach (a :: [tc]) X.env = (false, eval a X.env) :: starEach [tc] X.env := by rfl) (he2 : starEach (tc :: []) X.env = (false, eval tc X.env) :: starEach [] X.env := by rfl) (hpl : (backTo pos (starEach [tc] X.env)).any (·.1) = false := by rfl) :
    PE X (.Call (.Name "isinstance" p) [a, tc] [] pos) (rdE Y W U (.op (.isi [t0]) (.cons a' .nil))) := by
  refine (pe_callB call_isi hg hm (by decide +kernel) (pa_cons ha (pa_cons htc pa_nil he2) he) (by decide) (by decide) he hpl).imp fun σ H Q ⟨G, R, en, S, p⟩ => ⟨G, R, en, S, ?_⟩
  rw [evE_op1] at p
  refine Pst.bind p fun y en1 v H1 G1 _ s1 k1 S1 o1 p1 => ?_
  show rIsi X.K [v, cv] H1 Q
  refine prim_fin (o := .isi [t0]) (r := fun vs H Q => ∀ v, vs = [v] → rIsi X.K [v, cv] H Q) ?_ S1 (vs := [v]) (avs := [y]) ⟨o1, trivial⟩ p1 rfl v rfl
  intro G R H σ en vs ds p Q S hp e pq v ev
  subst ev
  obtain ⟨d, rfl, e⟩ := a1_some (show a1 (fun d => oB (isTys [t0] d)) ds = some p from e)
  obtain ⟨r, e9, rfl⟩ := oB_some e
  have e8 : isTy t0 d = some r := by
    simp only [isTys] at e9
    cases q : isTy t0 d with
    | none => rw [q] at e9; cases e9
    | some r' => rw [q] at e9; simpa using e9
  rcases isTys_dN (by simp) e9 with ⟨n, hn⟩ | ⟨c, ns, xs, rfl⟩
  · exact ⟨v, cv, _, u, r, rfl, ck, pk_ty hK S hp.1 hn, kit_some I tv hn e8, fin_sh S pq (.bl _)⟩
  · obtain ⟨ad, dx, fs, rfl, h0, h1, h2, h3⟩ := hp.1.obj S
    obtain ⟨i1, i2, i3, i4, i5⟩ := I.ins c h0
    exact ⟨.ref ad, cv, _, u, r, rfl, ck, .base (.ins h1 i1 i2 i3 i4 i5), kit_obj I h0 tv e8, fin_sh S pq (.bl _)⟩
end
end L3

/-! L3F: what is walked; list comprehensions; calls. -/
namespace L3
open PySem PySem.Spec PyProof.Rows L2
section
variable {X : Cx} {Y : Wd} {W : WX} {U : Ev} {a b c e : Expr} {a' b' c' : E} {es : List Expr} {as' : Es} {pos p p2 : Pos} {tg : Expr}

/-- isinstance(x, (T, ..)) -/
theorem s_isiT {ts : List Ty} {us : List Value} {cvs : List V} {tcs : List Expr} {k : Nat} {p3 : Pos} (hK : X.K = Y.K) (I : IsC Y X.K) (hm : X.mg "isinstance" = none) (tv : Paired (TyV Y) ts us) (ck : Paired ClsV cvs us) (hn : ts ≠ []) (hl : cvs.length ≤ sizeLine)
    (htc : PA X tcs (fun _ H Q => Q cvs H)) (ha : PE X a (rdX Y W U a')) (hg : Gl X "isinstance" := by rfl)
    (he : starEach (a :: [.Tuple tcs k p3]) X.env = (false, eval a X.env) :: starEach [.Tuple tcs k p3] X.env := by rfl) (he2 : starEach ((.Tuple tcs k p3) :: []) X.env = (false, eval (.Tuple tcs k p3) X.env) :: starEach [] X.env := by rfl) (hpl : (backTo pos (starEach [.Tuple tcs k p3] X.env)).any (·.1) = false := by rfl) :
    PE X (.Call (.Name "isinstance" p) [a, .Tuple tcs k p3] [] pos) (rdE Y W U (.op (.isi ts) (.cons a' .nil))) := by
  refine (pe_callB call_isiT hg hm (by decide +kernel) (pa_cons ha (pa_cons (pe_tup htc) pa_nil he2) he) (by decide) (by decide) he hpl).imp fun σ H Q ⟨G, R, en, S, p⟩ => ⟨G, R, en, S, ?_⟩
  rw [evE_op1] at p
  refine Pst.bind p fun y en1 v H1 G1 _ s1 k1 S1 o1 p1 => ?_
  refine ⟨hl, fun q hq => ?_⟩
  show rIsiT X.K [v, .ref q] (upd H1 q (.tup cvs)) Q
  refine prim_fin (o := .isi ts) (r := fun vs H Q => ∀ v, vs = [v] → H q = some (.tup cvs) → rIsiT X.K [v, .ref q] H Q) ?_ (S1.new hq) (vs := [v]) (avs := [y]) ⟨o1, trivial⟩ p1 rfl v rfl upd_same
  intro G R H σ en vs ds p Q S hp e pq v ev hT
  subst ev
  obtain ⟨d, rfl, e⟩ := a1_some (show a1 (fun d => oB (isTys ts d)) ds = some p from e)
  obtain ⟨r, e9, rfl⟩ := oB_some e
  rcases isTys_dN hn e9 with ⟨n, hn⟩ | ⟨c, ns, xs, rfl⟩
  · exact ⟨v, q, cvs, _, us, r, rfl, hT, ck, pk_ty hK S hp.1 hn, kitAny_some (fun t u r tv q => kit_some I tv hn q) tv e9, fin_sh S pq (.bl _)⟩
  · obtain ⟨ad, dx, fs, rfl, h0, h1, h2, h3⟩ := hp.1.obj S
    obtain ⟨i1, i2, i3, i4, i5⟩ := I.ins c h0
    exact ⟨.ref ad, q, cvs, _, us, r, rfl, hT, ck, .base (.ins h1 i1 i2 i3 i4 i5), kitAny_some (fun t u r tv q => kit_obj I h0 tv q) tv e9, fin_sh S pq (.bl _)⟩
theorem pa_c0 : PA X [] (fun _ H Q => Q ([] : List V) H) := pa_nil
theorem pa_c1 {v : V} {vs : List V} (h1 : PE X a (tC v)) (h2 : PA X es (fun _ H Q => Q vs H)) (hs : starEach (a :: es) X.env = (false, eval a X.env) :: starEach es X.env := by rfl) : PA X (a :: es) (fun _ H Q => Q (v :: vs) H) := pa_cons h1 h2 hs

/-! ### what is walked -/
/-- J tells the items, one by one, whatever else happens -/
def Gives (Y : Wd) (J : It) (items : List D) (G : Hp) : Prop := ∀ (i : Nat) (G' R H : Hp) (σ : L2.St) (en : En), Same G G' → Sep Y G' R H σ en →
  (∀ d, items[i]? = some d → J.go i H ∧ ∀ x H', J.yld i H x H' → ∃ G'', Same G' G'' ∧ Sep Y G'' R H' σ en ∧ Rep Y G'' x d) ∧ (items.length = i → J.stop i H)
/-- .. whatever happens that keeps what is reserved -/
def GivesR (Y : Wd) (J : It) (items : List D) (G R : Hp) : Prop := ∀ (i : Nat) (G' R' H : Hp) (σ : L2.St) (en : En), Same G G' → Same R R' → Sep Y G' R' H σ en →
  (∀ d, items[i]? = some d → J.go i H ∧ ∀ x H', J.yld i H x H' → ∃ G'', Same G' G'' ∧ Sep Y G'' R' H' σ en ∧ Rep Y G'' x d) ∧ (items.length = i → J.stop i H)
theorem Gives.r {J : It} {items : List D} {G R : Hp} (g : Gives Y J items G) : GivesR Y J items G R := fun i G' R' H σ en s _ S => g i G' R' H σ en s S
theorem gives_listR {G R : Hp} {a : Addr} {vs : List V} {ds : List D} (h : R a = some (.lst vs)) (r : RepL Y G vs ds) : GivesR Y (Itl Y.K a) ds G R := fun i G' R' H σ en s sr S => by
  have hH : SqL Y.K H a vs := .inl (.inl (S.rH _ _ (sr _ _ h)))
  refine ⟨fun d e => ?_, fun e => ⟨vs, hH, by rw [r.length, e]; exact Nat.le_refl _⟩⟩
  obtain ⟨v, e1, r1⟩ := r.get e
  refine ⟨⟨vs, v, hH, e1⟩, fun x H' ⟨eH, y⟩ => ?_⟩
  subst eH
  have := y vs hH
  rw [e1] at this; cases this
  exact ⟨G', Same.refl _, S, r1.mono s⟩
def okIt (Y : Wd) : Hp → Hp → Hp → L2.St → En → List D → It → Prop := fun G _ _ _ _ items J => Gives Y J items G
def evI (C : Nat → List (Bool × D) → CRes) (md : Nat → List Bool) (k : ItK) (as : Es) (en : En) : Rs (List D) := (evA C md as en).bind (itFin k)
abbrev rdI (Y : Wd) (W : WX) (U : Ev) (k : ItK) (as : Es) : TI := rd Y W (okIt Y) (evI U.C U.md k as)
theorem _root_.L2.PI.imp {X : Cx} {tg it : Expr} {t t' : TI} (h : PI X tg it t) (k : ∀ σ H Q, t' σ H Q → t σ H Q) : PI X tg it t' := ⟨fun p s σ H Q I q => h.run p s σ H Q I (k _ _ _ q)⟩
theorem itFin_bind {k : ItK} {G R : Hp} {σ : L2.St} {en : En} {as : Es} {RR : It → Hp → Prop} {Q1 : List V → Hp → Prop} (p : Pst Y W (okIt Y) G R σ en (evI U.C U.md k as en) RR)
    (h : ∀ G' H' en' vs ds items, Same G G' → Sep Y G' R H' σ en' → RepL Y G' vs ds → k.run ds = some items → (∀ J, Gives Y J items G' → RR J H') → Q1 vs H') : Pst Y W (okL Y) G R σ en (evA U.C U.md as en) Q1 := by
  refine Pst.bind p fun avs en1 vs H1 G1 _ s1 k1 S1 o1 p1 => ?_
  unfold itFin at p1
  split at p1
  · exact p1.elim
  · rename_i ds e
    split at p1
    · rename_i items e2
      exact h G1 H1 en1 vs ds items s1 S1 (repL_of o1 e) e2 fun J g => p1 J H1 G1 (Same.refl _) (Keep.refl _ _) S1 g
    · exact p1.elim
theorem repL1 {G : Hp} {vs : List V} {d : D} (h : RepL Y G vs [d]) : ∃ v, vs = [v] ∧ Rep Y G v d := by
  cases h with | cons h1 h2 => cases h2; exact ⟨_, rfl, h1⟩
theorem repL2 {G : Hp} {vs : List V} {d f : D} (h : RepL Y G vs [d, f]) : ∃ v u, vs = [v, u] ∧ Rep Y G v d ∧ Rep Y G u f := by
  cases h with | cons h1 h2 => cases h2 with | cons h2 h3 => cases h3; exact ⟨_, _, rfl, h1, h2⟩
theorem repL3 {G : Hp} {vs : List V} {d f g : D} (h : RepL Y G vs [d, f, g]) : ∃ v u w, vs = [v, u, w] ∧ Rep Y G v d ∧ Rep Y G u f ∧ Rep Y G w g := by
  cases h with | cons h1 h2 => cases h2 with | cons h2 h3 => cases h3 with | cons h3 h4 => cases h4; exact ⟨_, _, _, rfl, h1, h2, h3⟩
theorem gives_list {G : Hp} {a : Addr} {vs : List V} {ds : List D} (h : SqL Y.K G a vs) (r : RepL Y G vs ds) : Gives Y (Itl Y.K a) ds G := fun i G' R H σ en s S => by
  have hH : SqL Y.K H a vs := (s.trans S.gH).seq h
  refine ⟨fun d e => ?_, fun e => ⟨vs, hH, by rw [r.length, e]; exact Nat.le_refl _⟩⟩
  obtain ⟨v, e1, r1⟩ := r.get e
  refine ⟨⟨vs, v, hH, e1⟩, fun x H' ⟨eH, y⟩ => ?_⟩
  subst eH
  have := y vs hH
  rw [e1] at this; cases this
  exact ⟨G', Same.refl _, S, r1.mono s⟩
theorem gives_tup {G : Hp} {a : Addr} {vs : List V} {ds : List D} (h : SqT Y.K G a vs) (r : RepL Y G vs ds) : Gives Y (Itt Y.K a) ds G := fun i G' R H σ en s S => by
  have hH : SqT Y.K H a vs := Same.seqT (s.trans S.gH) h
  refine ⟨fun d e => ?_, fun e => ⟨vs, hH, by rw [r.length, e]; exact Nat.le_refl _⟩⟩
  obtain ⟨v, e1, r1⟩ := r.get e
  refine ⟨⟨vs, v, hH, e1⟩, fun x H' ⟨eH, y⟩ => ?_⟩
  subst eH
  have := y vs hH
  rw [e1] at this; cases this
  exact ⟨G', Same.refl _, S, r1.mono s⟩
theorem gives_rng {G : Hp} {lo : Int} {n : Nat} : Gives Y (Itr lo n) (rngI lo n) G := fun i G' R H σ en s S => by
  have hl : (rngI lo n).length = n := by simp [rngI]
  refine ⟨fun d e => ?_, fun e => by rw [hl] at e; exact Nat.le_of_eq e⟩
  have hi : i < n := by rw [← hl]; exact lt_of_get e
  have ed : d = .int (lo + (i : Int)) := by
    simp [rngI, List.getElem?_range hi] at e
    exact e.symm
  subst ed
  refine ⟨hi, fun x H' ⟨eH, ex⟩ => ?_⟩
  subst eH ex
  exact ⟨G', Same.refl _, S, .int _⟩
theorem gives_rngC {G : Hp} {lo cc : Int} {n : Nat} : Gives Y (Itc lo cc n) (rngC lo cc n) G := fun i G' R H σ en s S => by
  have hl : (rngC lo cc n).length = n := by simp [rngC]
  refine ⟨fun d e => ?_, fun e => by rw [hl] at e; exact Nat.le_of_eq e⟩
  have hi : i < n := by rw [← hl]; exact lt_of_get e
  have ed : d = .int (lo + (i : Int) * cc) := by
    simp [rngC, List.getElem?_range hi] at e
    exact e.symm
  subst ed
  refine ⟨hi, fun x H' ⟨eH, ex⟩ => ?_⟩
  subst eH ex
  exact ⟨G', Same.refl _, S, .int _⟩
theorem zipD_get : ∀ {xs ys : List D} {i : Nat} {d : D}, (zipD xs ys)[i]? = some d → ∃ x y, xs[i]? = some x ∧ ys[i]? = some y ∧ d = .tup [x, y]
  | [], ys, i, d, e => by simp [zipD] at e
  | x :: xs, [], i, d, e => by simp [zipD] at e
  | x :: xs, y :: ys, 0, d, e => by simp [zipD] at e; exact ⟨x, y, rfl, rfl, e.symm⟩
  | x :: xs, y :: ys, i + 1, d, e => by
    simp [zipD] at e
    obtain ⟨u, v, e1, e2, e3⟩ := zipD_get e
    exact ⟨u, v, by simpa using e1, by simpa using e2, e3⟩
theorem zipD_len : ∀ {xs ys : List D}, (zipD xs ys).length = xs.length ∨ (zipD xs ys).length = ys.length
  | [], ys => .inl rfl
  | x :: xs, [] => .inr rfl
  | x :: xs, y :: ys => by
    rcases zipD_len (xs := xs) (ys := ys) with h | h
    · exact .inl (by simp [zipD, h])
    · exact .inr (by simp [zipD, h])
theorem gives_zip {G : Hp} {a b : Addr} {vs us : List V} {ds fs : List D} (h : SqL Y.K G a vs) (h2 : SqL Y.K G b us) (r : RepL Y G vs ds) (r2 : RepL Y G us fs) : Gives Y (Itz Y.K a b) (zipD ds fs) G := fun i G' R H σ en s S => by
  have hH : SqL Y.K H a vs := (s.trans S.gH).seq h
  have hH2 : SqL Y.K H b us := (s.trans S.gH).seq h2
  refine ⟨fun d e => ?_, fun e => ⟨vs, us, hH, hH2, ?_⟩⟩
  · obtain ⟨x, y, e1, e2, rfl⟩ := zipD_get e
    obtain ⟨v, q1, t1⟩ := r.get e1
    obtain ⟨u, q2, t2⟩ := r2.get e2
    refine ⟨⟨vs, us, v, u, hH, hH2, q1, q2⟩, fun z H' ⟨T, x', y', ez, hT, eH, f1, f2⟩ => ?_⟩
    subst ez eH
    have g1 := f1 vs hH
    have g2 := f2 us hH2
    rw [q1] at g1; cases g1
    rw [q2] at g2; cases g2
    have sg : Same G' (upd G' T (.tup [v, u])) := same_new (S.gnone hT)
    exact ⟨_, sg, S.newG hT, .tup (.inl (.inl upd_same)) (.cons ((t1.mono s).mono sg) (.cons ((t2.mono s).mono sg) .nil))⟩
  · rw [r.length, r2.length, ← e]
    rcases zipD_len (xs := ds) (ys := fs) with h | h
    · exact .inl (Nat.le_of_eq h.symm)
    · exact .inr (Nat.le_of_eq h.symm)
theorem gives_zipT {G : Hp} {a b : Addr} {vs us : List V} {ds fs : List D} (h : SqT Y.K G a vs) (h2 : SqT Y.K G b us) (r : RepL Y G vs ds) (r2 : RepL Y G us fs) : Gives Y (RZ.ItzT Y.K a b) (zipD ds fs) G := fun i G' R H σ en s S => by
  have hH : SqT Y.K H a vs := Same.seqT (s.trans S.gH) h
  have hH2 : SqT Y.K H b us := Same.seqT (s.trans S.gH) h2
  refine ⟨fun d e => ?_, fun e => ⟨vs, us, hH, hH2, ?_⟩⟩
  · obtain ⟨x, y, e1, e2, rfl⟩ := zipD_get e
    obtain ⟨v, q1, t1⟩ := r.get e1
    obtain ⟨u, q2, t2⟩ := r2.get e2
    refine ⟨⟨vs, us, v, u, hH, hH2, q1, q2⟩, fun z H' ⟨T, x', y', ez, hT, eH, f1, f2⟩ => ?_⟩
    subst ez eH
    have g1 := f1 vs hH
    have g2 := f2 us hH2
    rw [q1] at g1; cases g1
    rw [q2] at g2; cases g2
    have sg : Same G' (upd G' T (.tup [v, u])) := same_new (S.gnone hT)
    exact ⟨_, sg, S.newG hT, .tup (.inl (.inl upd_same)) (.cons ((t1.mono s).mono sg) (.cons ((t2.mono s).mono sg) .nil))⟩
  · rw [r.length, r2.length, ← e]
    rcases zipD_len (xs := ds) (ys := fs) with h | h
    · exact .inl (Nat.le_of_eq h.symm)
    · exact .inr (Nat.le_of_eq h.symm)
theorem enmD_get : ∀ {xs : List D} {n i : Nat} {d : D}, (enmD n xs)[i]? = some d → ∃ x, xs[i]? = some x ∧ d = .tup [.int ((n + i : Nat) : Int), x]
  | [], n, i, d, e => by simp [enmD] at e
  | x :: xs, n, 0, d, e => by simp [enmD] at e; exact ⟨x, rfl, e.symm⟩
  | x :: xs, n, i + 1, d, e => by
    simp [enmD] at e
    obtain ⟨u, e1, e2⟩ := enmD_get e
    exact ⟨u, by simpa using e1, by rw [e2]; congr 3; omega⟩
theorem enmD_len : ∀ (xs : List D) (n : Nat), (enmD n xs).length = xs.length
  | [], _ => rfl
  | _ :: xs, n => by simp [enmD, enmD_len xs]
theorem gives_enm {G : Hp} {a : Addr} {vs : List V} {ds : List D} (h : SqL Y.K G a vs) (r : RepL Y G vs ds) : Gives Y (Ite Y.K a) (enmD 0 ds) G := fun i G' R H σ en s S => by
  have hH : SqL Y.K H a vs := (s.trans S.gH).seq h
  refine ⟨fun d e => ?_, fun e => ⟨vs, hH, by rw [r.length, ← e, enmD_len]; exact Nat.le_refl _⟩⟩
  obtain ⟨x, e1, rfl⟩ := enmD_get e
  obtain ⟨v, q1, t1⟩ := r.get e1
  refine ⟨⟨vs, v, hH, q1⟩, fun z H' ⟨T, x', ez, hT, eH, f1⟩ => ?_⟩
  subst ez eH
  have g1 := f1 vs hH
  rw [q1] at g1; cases g1
  have sg : Same G' (upd G' T (.tup [.int (i : Nat), v])) := same_new (S.gnone hT)
  refine ⟨_, sg, S.newG hT, .tup (.inl (.inl upd_same)) (.cons ?_ (.cons ((t1.mono s).mono sg) .nil))⟩
  rw [Nat.zero_add]
  exact .int _
theorem gives_enmT {G : Hp} {a : Addr} {vs : List V} {ds : List D} (h : SqT Y.K G a vs) (r : RepL Y G vs ds) : Gives Y (IteT Y.K a) (enmD 0 ds) G := fun i G' R H σ en s S => by
  have hH : SqT Y.K H a vs := Same.seqT (s.trans S.gH) h
  refine ⟨fun d e => ?_, fun e => ⟨vs, hH, by rw [r.length, ← e, enmD_len]⟩⟩
  obtain ⟨x, e1, rfl⟩ := enmD_get e
  obtain ⟨v, q1, t1⟩ := r.get e1
  refine ⟨⟨vs, v, hH, q1⟩, fun z H' ⟨T, x', ez, hT, eH, f1⟩ => ?_⟩
  subst ez eH
  have g1 := f1 vs hH
  rw [q1] at g1; cases g1
  have sg : Same G' (upd G' T (.tup [.int (i : Nat), v])) := same_new (S.gnone hT)
  refine ⟨_, sg, S.newG hT, .tup (.inl (.inl upd_same)) (.cons ?_ (.cons ((t1.mono s).mono sg) .nil))⟩
  rw [Nat.zero_add]
  exact .int _
theorem gives_rev {G : Hp} {a : Addr} {vs : List V} {ds : List D} (h : SqL Y.K G a vs) (r : RepL Y G vs ds) : Gives Y (Itv Y.K a vs.length) ds.reverse G := fun i G' R H σ en s S => by
  have hH : SqL Y.K H a vs := (s.trans S.gH).seq h
  refine ⟨fun d e => ?_, fun e => by show vs.length ≤ i; rw [r.length, ← e, List.length_reverse]; exact Nat.le_refl _⟩
  have hi : i < ds.length := by rw [← List.length_reverse]; exact lt_of_get e
  rw [List.getElem?_reverse hi] at e
  obtain ⟨v, q1, t1⟩ := r.get e
  rw [← r.length] at q1
  refine ⟨⟨by rw [r.length]; exact hi, vs, v, hH, q1⟩, fun z H' ⟨eH, f1⟩ => ?_⟩
  subst eH
  have g1 := f1 vs hH
  rw [q1] at g1; cases g1
  exact ⟨G', Same.refl _, S, t1.mono s⟩
theorem gives_revT {G : Hp} {a : Addr} {vs : List V} {ds : List D} (h : SqT Y.K G a vs) (r : RepL Y G vs ds) : Gives Y (RT.ItvT Y.K a vs.length) ds.reverse G := fun i G' R H σ en s S => by
  have hH : SqT Y.K H a vs := Same.seqT (s.trans S.gH) h
  refine ⟨fun d e => ?_, fun e => by show vs.length ≤ i; rw [r.length, ← e, List.length_reverse]; exact Nat.le_refl _⟩
  have hi : i < ds.length := by rw [← List.length_reverse]; exact lt_of_get e
  rw [List.getElem?_reverse hi] at e
  obtain ⟨v, q1, t1⟩ := r.get e
  rw [← r.length] at q1
  refine ⟨⟨by rw [r.length]; exact hi, vs, v, hH, q1⟩, fun z H' ⟨eH, f1⟩ => ?_⟩
  subst eH
  have g1 := f1 vs hH
  rw [q1] at g1; cases g1
  exact ⟨G', Same.refl _, S, t1.mono s⟩

theorem evI1 (C : Nat → List (Bool × D) → CRes) (md : Nat → List Bool) (k : ItK) (a : E) (en : En) : evI C md k (.cons a .nil) en = (argOf a (evE C md a en) en).bind fun x en => itFin k [x] en := by
  unfold evI
  rw [evA_cons, Rs.bind_assoc]
  rfl

/-- a list or a tuple is walked -/
theorem pi_any {tl : TE} (hl : PE X a tl) : PI X tg a (fun σ H RR => tl σ H fun x H1 => ∃ q, x = .ref q ∧ ((∃ xs, SqL X.K H1 q xs ∧ RR (Itl X.K q) H1) ∨ (∃ xs, SqT X.K H1 q xs ∧ RR (Itt X.K q) H1))) := by
  constructor
  intro pins s σ H RR I h
  have go := hl.run pins s σ H _ I h
  refine thn go ?_
  intro v s1 hv
  obtain ⟨x, H1, I1, r1, q, ex, hh⟩ := hv
  subst ex
  cases r1
  have fine : ∀ bb ∈ [s1.heap.objs.size], FpOk X pins H1 bb := by
    intro bb hb
    rw [List.mem_singleton] at hb
    subst hb
    exact I1.fpOk (Nat.le_refl _) I1.fresh
  have kept : ∀ ob, Inv X pins σ H1 { s1 with heap := s1.heap.push ob } := fun ob => I1.kept (t' := s1.toks) fun bb o eo => Heap.get?_push_of_some _ eo
  rcases hh with ⟨xs, hq, hR⟩ | ⟨xs, hq, hR⟩
  · obtain ⟨its, _, pl, _⟩ := I1.list hq
    refine wpAny_pyIter_list pl.isList ⟨s1.heap.objs.size, [s1.heap.objs.size], _, _, H1, rfl, kept _, turn_list q _, ?_, fine, hR⟩
    exact ⟨_, Heap.get?_push_size _ rfl, rfl, rfl⟩
  · obtain ⟨its, _, pt, _⟩ := I1.tuple hq
    refine wpAny_pyIter_tuple (show s1.heap.IsTuple q its.toArray from pt) ⟨s1.heap.objs.size, [s1.heap.objs.size], _, _, H1, rfl, kept _, turn_tuple q _, ?_, fine, hR⟩
    exact ⟨_, Heap.get?_push_size _ rfl, rfl, rfl⟩
theorem i_seq (hK : X.K = Y.K) (ha : PE X a (rdX Y W U a')) : PI X tg a (rdI Y W U .seq (.cons a' .nil)) := by
  refine (pi_any ha).imp fun σ H RR ⟨G, R, en, S, p⟩ => ⟨G, R, en, S, ?_⟩
  rw [evI1] at p
  refine Pst.bind p fun x en1 v H1 G1 _ s1 k1 S1 o1 p1 => ?_
  unfold itFin at p1
  split at p1
  · exact p1.elim
  · rename_i ds e
    have rl : RepL Y G1 [v] ds := repL_of (en := en1) (σ := σ) (as := [x]) ⟨o1, trivial⟩ e
    split at p1
    · rename_i items e2
      cases rl with | cons r1 r2 =>
        cases r2
        have fin : ∀ J, Gives Y J items G1 → RR J H1 := fun J g => p1 J H1 G1 (Same.refl _) (Keep.refl _ _) S1 g
        rename_i d
        have e2 : seqD d = some items := e2
        cases d with
        | tup ds =>
          cases e2
          cases r1 with | tup h1 h2 =>
            refine ⟨_, rfl, .inr ⟨_, by rw [hK]; exact Same.seqT S1.gH h1, ?_⟩⟩
            rw [hK]; exact fin _ (gives_tup h1 h2)
        | lst ds =>
          cases e2
          cases r1 with | lst h1 h2 =>
            refine ⟨_, rfl, .inl ⟨_, .inl (.inl (S1.gH _ _ h1)), ?_⟩⟩
            rw [hK]; exact fin _ (gives_list (.inl (.inl h1)) h2)
        | fls ds =>
          cases e2
          cases r1 with | fls h1 h2 =>
            refine ⟨_, rfl, .inl ⟨_, by rw [hK]; exact S1.gH.seq h1, ?_⟩⟩
            rw [hK]; exact fin _ (gives_list h1 h2)
        | _ => cases e2
    · exact p1.elim
theorem inB_ok {i : Int} (h : inB i = true) : -(2 ^ 62) ≤ i ∧ i < 2 ^ 62 := of_decide_eq_true h

theorem i_rng1 (hm : X.mg "range" = none) (ha : PA X [a] (rdA Y W U as')) (hg : Gl X "range" := by rfl) (hs : starEach [a] X.env = [(false, eval a X.env)] := by rfl) : PI X tg (.Call (.Name "range" p) [a] [] pos) (rdI Y W U .rng1 as') := by
  refine (pi_range1 hg hm ha hs).imp fun σ H RR ⟨G, R, en, S, p⟩ => ⟨G, R, en, S, itFin_bind p fun G1 H1 en1 vs ds items s S1 r e f => ?_⟩
  have e : kRng1 ds = some items := e
  unfold kRng1 at e
  split at e
  · split at e
    · rename_i j _ hj
      cases e
      obtain ⟨v, rfl, r1⟩ := repL1 r
      cases r1
      exact ⟨j, rfl, (inB_ok hj).1, (inB_ok hj).2, f _ gives_rng⟩
    · cases e
  · cases e
theorem i_rng2 (hm : X.mg "range" = none) (ha : PA X [a, b] (rdA Y W U as')) (hg : Gl X "range" := by rfl) (hs : starEach [a, b] X.env = [(false, eval a X.env), (false, eval b X.env)] := by rfl) (hs2 : starEach [b] X.env = [(false, eval b X.env)] := by rfl) :
    PI X tg (.Call (.Name "range" p) [a, b] [] pos) (rdI Y W U .rng2 as') := by
  refine (pi_range2 hg hm ha hs hs2).imp fun σ H RR ⟨G, R, en, S, p⟩ => ⟨G, R, en, S, itFin_bind p fun G1 H1 en1 vs ds items s S1 r e f => ?_⟩
  have e : kRng2 ds = some items := e
  unfold kRng2 at e
  split at e
  · split at e
    · rename_i i j _ hj
      cases e
      obtain ⟨h1, h2⟩ := Bool.and_eq_true_iff.mp hj
      obtain ⟨v, u, rfl, r1, r2⟩ := repL2 r
      cases r1; cases r2
      exact ⟨i, j, rfl, ⟨(inB_ok h1).1, (inB_ok h1).2, (inB_ok h2).1, (inB_ok h2).2⟩, f _ gives_rng⟩
    · cases e
  · cases e
theorem i_rng3 (hm : X.mg "range" = none) (ha : PA X [a, b, c] (rdA Y W U as')) (hg : Gl X "range" := by rfl) (hs : starEach [a, b, c] X.env = (false, eval a X.env) :: starEach [b, c] X.env := by rfl) (hpl : (backTo pos (starEach [b, c] X.env)).any (·.1) = false := by rfl) :
    PI X tg (.Call (.Name "range" p) [a, b, c] [] pos) (rdI Y W U .rng3 as') := by
  refine (pi_range3 hg hm ha hs hpl).imp fun σ H RR ⟨G, R, en, S, p⟩ => ⟨G, R, en, S, itFin_bind p fun G1 H1 en1 vs ds items s S1 r e f => ?_⟩
  have e : kRng3 ds = some items := e
  unfold kRng3 at e
  split at e
  · split at e
    · rename_i i j c _ hj
      cases e
      unfold rgOk at hj
      obtain ⟨h1, h2⟩ := Bool.and_eq_true_iff.mp hj
      obtain ⟨h3, h4⟩ := Bool.and_eq_true_iff.mp h1
      obtain ⟨v, u, w, rfl, r1, r2, r3⟩ := repL3 r
      cases r1; cases r2; cases r3
      have h5 := of_decide_eq_true h2
      exact ⟨i, j, c, _, rfl, ⟨(of_decide_eq_true h3).1, (of_decide_eq_true h3).2, h4, by omega⟩, f _ gives_rngC⟩
    · cases e
  · cases e
theorem i_zip {elts : List Expr} {kk : Nat} {tpos : Pos} (hK : X.K = Y.K) (hm : X.mg "zip" = none) (ha : PA X [a, b] (rdA Y W U as')) (hg : Gl X "zip" := by rfl) (hs : starEach [a, b] X.env = (false, eval a X.env) :: starEach [b] X.env := by rfl) (hpl : (backTo pos (starEach [b] X.env)).any (·.1) = false := by rfl) :
    PI X (.Tuple elts kk tpos) (.Call (.Name "zip" p) [a, b] [] pos) (rdI Y W U .zip as') := by
  refine (RZ.pi_zipA hg hm ha hs hpl).imp fun σ H RR ⟨G, R, en, S, p⟩ => ⟨G, R, en, S, itFin_bind p fun G1 H1 en1 vs ds items s S1 r e f => ?_⟩
  have e : kZip ds = some items := e
  unfold kZip at e
  split at e
  · cases e
    obtain ⟨v, u, rfl, r1, r2⟩ := repL2 r
    cases r1 with | lst h1 h2 =>
      cases r2 with | lst h3 h4 =>
        exact ⟨_, _, _, _, rfl, .inl ⟨.inl (.inl (S1.gH _ _ h1)), .inl (.inl (S1.gH _ _ h3)), by rw [hK]; exact f _ (gives_zip (.inl (.inl h1)) (.inl (.inl h3)) h2 h4)⟩⟩
  · cases e
    obtain ⟨v, u, rfl, r1, r2⟩ := repL2 r
    cases r1 with | tup h1 h2 =>
      cases r2 with | tup h3 h4 =>
        exact ⟨_, _, _, _, rfl, .inr ⟨by rw [hK]; exact Same.seqT S1.gH h1, by rw [hK]; exact Same.seqT S1.gH h3, by rw [hK]; exact f _ (gives_zipT h1 h3 h2 h4)⟩⟩
  · cases e

/-! ### [e for x in .. if ..] -/
/-- targets of a for: stored -/
def rdG (Y : Wd) (tg : Tg) : TG := fun v σ H Q => ∃ G R en d own, Sep Y G R H σ en ∧ Vok Y G R H σ en v d own ∧ match stTg tg d own en with
  | some en' => ∀ σ', Keep σ en σ' en' → Sep Y G R H σ' en' → (∀ j : Nat, j ∉ tg.slots → σ'[j]? = σ[j]?) → Q σ' H
  | none => False
end
section
variable {X : Cx} {Y : Wd} {W : WX} {U : Ev}
theorem stVar_ok {i : Nat} {d : D} {own : Bool} {en en' : En} (e : stVar i d own en = some en') : i < en.length ∧ isBC en[i]? = false ∧ en' = en.set i (some (if own then .own else .sh, d)) := by
  unfold stVar at e
  split at e
  · cases e
  · cases e
  · cases e
  · rename_i c h1 h2 h3
    cases hc : en[i]? with
    | none => exact absurd hc h1
    | some c =>
      cases e
      refine ⟨lt_of_get hc, ?_, rfl⟩
      cases c with
      | none => rfl
      | some q =>
        obtain ⟨ow, d'⟩ := q
        cases ow with
        | sh => rfl
        | own => rfl
        | brw => exact absurd hc (h2 d')
        | brs => exact absurd hc (h3 d')
theorem Keep.st {i : Nat} {d : D} {own : Bool} {σ : L2.St} {en en' : En} {v : Option V} (e : stVar i d own en = some en') : Keep σ en (σ.set i v) en' := by
  obtain ⟨_, h2, rfl⟩ := stVar_ok e
  exact Keep.store h2 (by cases own <;> rfl)
theorem Sep.st {i : Nat} {d : D} {own : Bool} {G R H : Hp} {σ : L2.St} {en en' : En} {v : V} (S : Sep Y G R H σ en) (e : stVar i d own en = some en') (q : Vok Y G R H σ en v d own) : Sep Y G R H (σ.set i (some v)) en' := by
  obtain ⟨h1, _, rfl⟩ := stVar_ok e
  exact S.store h1 q
/-- names stored one after another: shared values -/
def setAll (σ : L2.St) : List Nat → List V → L2.St
  | i :: is, v :: vs => setAll (σ.set i (some v)) is vs
  | _, _ => σ
theorem setAll_off : ∀ {is : List Nat} {vs : List V} {σ : L2.St} {j : Nat}, j ∉ is → (setAll σ is vs)[j]? = σ[j]?
  | [], _, _, _, _ => rfl
  | _ :: _, [], _, _, _ => rfl
  | i :: is, v :: vs, σ, j, h => by
    have h1 : i ≠ j := fun z => h (z ▸ List.mem_cons_self)
    have h2 : j ∉ is := fun z => h (List.mem_cons_of_mem _ z)
    show (setAll (σ.set i (some v)) is vs)[j]? = _
    rw [setAll_off h2, List.getElem?_set_ne h1]
theorem stVars_ok : ∀ {is : List Nat} {ds : List D} {vs : List V} {G R H : Hp} {σ : L2.St} {en en' : En}, Sep Y G R H σ en → RepL Y G vs ds → stVars is ds en = some en' → Keep σ en (setAll σ is vs) en' ∧ Sep Y G R H (setAll σ is vs) en' ∧ is.length = vs.length
  | [], [], vs, G, R, H, σ, en, en', S, r, e => by
    cases r
    cases e
    exact ⟨Keep.refl _ _, S, rfl⟩
  | i :: is, d :: ds, vs, G, R, H, σ, en, en', S, r, e => by
    cases r with | cons r1 r2 =>
      simp only [stVars] at e
      cases q : stVar i d false en with
      | some en1 =>
        rw [q] at e
        have S1 := S.st q (show Vok Y G R H σ en _ d false from r1)
        obtain ⟨k, S2, l⟩ := stVars_ok S1 r2 e
        exact ⟨(Keep.st q).trans k, S2, by simp [l]⟩
      | none => rw [q] at e; cases e
  | [], _ :: _, _, _, _, _, _, _, _, _, _, e => by cases e
  | _ :: _, [], _, _, _, _, _, _, _, _, _, e => by cases e
/-- the slots of names -/
structure NmI (X : Cx) (i : Nat) (x : Str) : Prop where
  ix : X.N[i]? = some x
  loc : Loc X.env.scope x
  fn : X.fn x = true ∨ X.env.scope.names.lookup x = some .local
inductive NmL (X : Cx) : List Nat → List Expr → Prop
  | nil : NmL X [] []
  | cons {i : Nat} {is : List Nat} {x : Str} {es : List Expr} {pos : Pos} : NmI X i x → NmL X is es → NmL X (i :: is) (.Name x pos :: es)
def gSet : List Nat → TGs
  | [] => gNil
  | i :: is => gCons (gName i) (gSet is)
theorem pgs_names (nd : X.N.Nodup) : ∀ {is : List Nat} {es : List Expr}, NmL X is es → PGs X es (gSet is)
  | _, _, .nil => pgs_nil
  | _, _, .cons h t => pgs_cons (pg_name nd h.ix h.loc h.fn) (pgs_names nd t)
theorem gSet_ok : ∀ {is : List Nat} {vs : List V} {σ : L2.St} {H : Hp} {Q : L2.St → Hp → Prop}, is.length = vs.length → Q (setAll σ is vs) H → gSet is vs σ H Q
  | [], [], _, _, _, _, q => ⟨rfl, q⟩
  | _ :: _, _ :: _, _, _, _, l, q => ⟨_, _, rfl, gSet_ok (by simpa using l) q⟩
  | [], _ :: _, _, _, _, l, _ => by simp at l
  | _ :: _, [], _, _, _, l, _ => by simp at l
theorem _root_.L2.PG.imp {tg : Expr} {t t' : TG} (h : PG X tg t) (k : ∀ v σ H Q, t' v σ H Q → t v σ H Q) : PG X tg t' := ⟨fun p s σ H v u Q I r q => h.run p s σ H v u Q I r (k _ _ _ _ q)⟩
theorem g_nm {i : Nat} {x : Str} {pos : Pos} (nd : X.N.Nodup) (h : NmI X i x) : PG X (.Name x pos) (rdG Y (.nm i)) := by
  refine (pg_name nd h.ix h.loc h.fn).imp fun v σ H Q ⟨G, R, en, d, own, S, q, m⟩ => ?_
  show Q (σ.set i (some v)) H
  cases e : stTg (.nm i) d own en with
  | some en' =>
    rw [e] at m
    exact m _ (Keep.st e) (S.st e q) fun j hj => List.getElem?_set_ne fun z => hj (by subst z; exact List.mem_singleton.mpr rfl)
  | none => rw [e] at m; exact m.elim
theorem g_tp {is : List Nat} {es : List Expr} {k : Nat} {pos : Pos} (hc : X.calm = true) (hK : X.K = Y.K) (nd : X.N.Nodup) (h : NmL X is es) (hn : (assignEach es X.env).length = is.length := by rfl) (hst : (assignEach es X.env).findIdx? (·.1) = none := by rfl) : PG X (.Tuple es k pos) (rdG Y (.tp is)) := by
  refine (pg_tup hc (pgs_names nd h) hn hst).imp fun v σ H Q ⟨G, R, en, d, own, S, q, m⟩ => ?_
  cases e : stTg (.tp is) d own en with
  | some en' =>
    rw [e] at m
    unfold stTg at e
    split at e
    · rename_i h1; cases h1
    · rename_i h1; cases h1
      have q : Rep Y G v _ := q
      cases q with | tup h1 h2 =>
        obtain ⟨k, S2, l⟩ := stVars_ok S h2 e
        exact ⟨_, _, rfl, by rw [hK]; exact Same.seqT S.gH h1, l.symm, gSet_ok l (m _ k S2 fun j hj => setAll_off hj)⟩
    · rename_i h1; cases h1
    · cases e
  | none => rw [e] at m; exact m.elim
theorem g_tpt {i : Nat} {x : Str} {is : List Nat} {es : List Expr} {k k2 : Nat} {pos pos1 pos2 : Pos} (hc : X.calm = true) (hK : X.K = Y.K) (nd : X.N.Nodup) (h0 : NmI X i x) (h : NmL X is es) (hn : (assignEach es X.env).length = is.length := by rfl) (hst : (assignEach es X.env).findIdx? (·.1) = none := by rfl)
    (hn2 : (assignEach [.Name x pos1, .Tuple es k2 pos2] X.env).length = 2 := by rfl) (hst2 : (assignEach [.Name x pos1, .Tuple es k2 pos2] X.env).findIdx? (·.1) = none := by rfl) : PG X (.Tuple [.Name x pos1, .Tuple es k2 pos2] k pos) (rdG Y (.tpt i is)) := by
  refine (pg_tup hc (pgs_cons (pg_name nd h0.ix h0.loc h0.fn) (pgs_cons (pg_tup hc (pgs_names nd h) hn hst) pgs_nil)) hn2 hst2).imp fun v σ H Q ⟨G, R, en, d, own, S, q, m⟩ => ?_
  cases e : stTg (.tpt i is) d own en with
  | some en' =>
    rw [e] at m
    unfold stTg at e
    split at e
    · rename_i h1; cases h1
    · rename_i h1; cases h1
    · rename_i h1; cases h1
      have q : Rep Y G v _ := q
      cases q with | tup h1 h2 =>
        obtain ⟨v1, v2, rfl, r1, r2⟩ := repL2 h2
        split at e
        · rename_i en1 e1
          have S1 := S.st e1 (show Vok Y G R H σ _ _ _ false from r1)
          cases r2 with | tup h3 h4 =>
            obtain ⟨k, S2, l⟩ := stVars_ok S1 h4 e
            refine ⟨_, _, rfl, by rw [hK]; exact Same.seqT S.gH h1, rfl, v1, _, rfl, ?_⟩
            refine ⟨_, _, rfl, ⟨_, _, rfl, by rw [hK]; exact Same.seqT S1.gH h3, l.symm, gSet_ok l ⟨rfl, ?_⟩⟩⟩
            refine m _ ((Keep.st e1).trans k) S2 fun j hj => ?_
            rw [setAll_off (fun z => hj (List.mem_cons_of_mem _ z)), List.getElem?_set_ne fun z => hj (by subst z; exact List.mem_cons_self)]
        · cases e
    · cases e
  | none => rw [e] at m; exact m.elim
end
end L3

/-! L3G: list comprehensions. -/
namespace L3
open PySem PySem.Spec PyProof.Rows L2
section
variable {X : Cx} {Y : Wd} {W : WX} {U : Ev}
abbrev W0 : WX := fun _ _ _ _ => False
theorem noEr_bind {α β γ δ : Type} {ok1 : Hp → Hp → Hp → L2.St → En → α → β → Prop} {ok2 : Hp → Hp → Hp → L2.St → En → γ → δ → Prop} {G R : Hp} {σ : L2.St} {en : En} {r : Rs α} {f : α → En → Rs γ} {Q : δ → Hp → Prop} {Q1 : β → Hp → Prop}
    (h : Pst Y W ok2 G R σ en ((noEr r).bind f) Q) (k : ∀ a en' b H' G', r = .ok a en' → Same G G' → Keep σ en σ en' → Sep Y G' R H' σ en' → ok1 G' R H' σ en' a b → Pst Y W ok2 G' R σ en' (f a en') Q → Q1 b H') : Pst Y W0 ok1 G R σ en r Q1 := by
  cases r with
  | ok a en' =>
    intro b H' G' s kp S o
    exact k a en' b H' G' rfl s kp S o (Pst.weak (r := f a en') h s kp)
  | er x en' => exact h.elim
  | bad => exact h.elim
theorem wipeE_len (en : En) : ∀ vs : List Nat, (wipeE en vs).length = en.length
  | [] => rfl
  | v :: vs => by unfold wipeE; rw [List.length_set, wipeE_len en vs]
theorem wipeE_off (en : En) : ∀ {vs : List Nat} {j : Nat}, j ∉ vs → (wipeE en vs)[j]? = en[j]?
  | [], _, _ => rfl
  | v :: vs, j, h => by
    unfold wipeE
    rw [List.getElem?_set_ne (fun z => h (by subst z; exact List.mem_cons_self)), wipeE_off en fun z => h (List.mem_cons_of_mem _ z)]
theorem wipeE_on (en : En) : ∀ {vs : List Nat} {j : Nat}, j ∈ vs → ∀ x, (wipeE en vs)[j]? ≠ some (some x)
  | v :: vs, j, h, x => by
    unfold wipeE
    by_cases hv : v = j
    · subst hv
      by_cases hl : v < (wipeE en vs).length
      · rw [List.getElem?_set_self hl]; intro z; cases z
      · rw [List.getElem?_eq_none (by rw [List.length_set]; omega)]; intro z; cases z
    · rw [List.getElem?_set_ne hv]
      rcases List.mem_cons.mp h with z | z
      · exact absurd z.symm hv
      · exact wipeE_on en z x
theorem wipe_off {σ : L2.St} : ∀ {vs : List Nat} {j : Nat}, j ∉ vs → (wipe σ vs)[j]? = σ[j]?
  | [], _, _ => rfl
  | v :: vs, j, h => by
    unfold wipe
    rw [List.getElem?_set_ne (fun z => h (by subst z; exact List.mem_cons_self)), wipe_off fun z => h (List.mem_cons_of_mem _ z)]
theorem wipe_on {σ : L2.St} : ∀ {vs : List Nat} {j : Nat}, j ∈ vs → j < σ.length → (wipe σ vs)[j]? = some none
  | v :: vs, j, h, hl => by
    unfold wipe
    by_cases hv : v = j
    · subst hv
      rw [List.getElem?_set_self (by rw [wipe_length]; exact hl)]
    · rw [List.getElem?_set_ne hv]
      rcases List.mem_cons.mp h with z | z
      · exact absurd z.symm hv
      · exact wipe_on z hl
theorem wipe_eq {σ σ' : L2.St} {vs : List Nat} (l : σ'.length = σ.length) (h : ∀ j : Nat, j ∉ vs → σ'[j]? = σ[j]?) : wipe σ' vs = wipe σ vs := by
  apply List.ext_getElem?
  intro j
  by_cases hj : j ∈ vs
  · by_cases hl : j < σ.length
    · rw [wipe_on hj hl, wipe_on hj (by rw [l]; exact hl)]
    · rw [List.getElem?_eq_none (by rw [wipe_length]; omega), List.getElem?_eq_none (by rw [wipe_length]; omega)]
  · rw [wipe_off hj, wipe_off hj, h j hj]
/-- another list of values that agrees where the evaluator looks -/
theorem Sep.agree {G R H : Hp} {σ σ' : L2.St} {en en' : En} (S : Sep Y G R H σ en) (l : σ'.length = en'.length) (h : ∀ (i : Nat) x, en'[i]? = some (some x) → en[i]? = some (some x) ∧ σ'[i]? = σ[i]?) : Sep Y G R H σ' en' := by
  refine ⟨S.gH, S.rH, S.gr, l, fun i ow d e k => ?_, fun i ow d e k => ?_, fun i j a e1 e2 q1 q2 => ?_, S.tb⟩
  · obtain ⟨h1, h2⟩ := h i _ e
    rw [h2]; exact S.sh i ow d h1 k
  · obtain ⟨h1, h2⟩ := h i _ e
    rw [h2]; exact S.own i ow d h1 k
  · obtain ⟨ow, d, f1, f2⟩ := isOwnC_get e1
    obtain ⟨ow', d', f3, f4⟩ := isOwnC_get e2
    obtain ⟨h1, h2⟩ := h i _ f1
    obtain ⟨h3, h4⟩ := h j _ f3
    rw [h2] at q1; rw [h4] at q2
    exact S.apart i j a (by rw [h1]; exact f2) (by rw [h3]; exact f4) q1 q2
theorem Sep.wipe {G R H : Hp} {σ σ' : L2.St} {en : En} {vs : List Nat} (S : Sep Y G R H σ en) (l : σ'.length = σ.length) (h : ∀ j : Nat, j ∉ vs → σ'[j]? = σ[j]?) : Sep Y G R H (wipe σ' vs) (wipeE en vs) :=
  S.agree (by rw [wipe_length, wipeE_len, l, S.len]) fun i x e => by
    by_cases hi : i ∈ vs
    · exact absurd e (wipeE_on en hi x)
    · rw [wipeE_off en hi] at e
      exact ⟨e, by rw [wipe_off hi, h i hi]⟩
theorem restE_len (en0 en : En) : ∀ vs : List Nat, (restE en0 en vs).length = en.length
  | [] => rfl
  | v :: vs => by unfold restE; rw [List.length_set, restE_len en0 en vs]
theorem restE_off (en0 en : En) : ∀ {vs : List Nat} {j : Nat}, j ∉ vs → (restE en0 en vs)[j]? = en[j]?
  | [], _, _ => rfl
  | v :: vs, j, h => by
    unfold restE
    rw [List.getElem?_set_ne (fun z => h (by subst z; exact List.mem_cons_self)), restE_off en0 en fun z => h (List.mem_cons_of_mem _ z)]
theorem restE_on (en0 en : En) (hl : en.length = en0.length) : ∀ {vs : List Nat} {j : Nat}, j ∈ vs → (restE en0 en vs)[j]? = en0[j]?
  | v :: vs, j, h => by
    unfold restE
    by_cases hv : v = j
    · subst hv
      by_cases hb : v < en.length
      · rw [List.getElem?_set_self (by rw [restE_len]; exact hb), List.getElem?_eq_getElem (by rw [← hl]; exact hb)]; rfl
      · rw [List.getElem?_eq_none (by rw [List.length_set, restE_len]; omega), List.getElem?_eq_none (by omega)]
    · rw [List.getElem?_set_ne hv]
      rcases List.mem_cons.mp h with z | z
      · exact absurd z.symm hv
      · exact restE_on en0 en hl z
theorem shE_cases {en : En} {v : Nat} (h : shE en v = true) : en[v]? = some none ∨ ∃ d, en[v]? = some (some (.sh, d)) := by
  unfold shE at h
  split at h
  · rename_i e; exact .inl e
  · rename_i d e; exact .inr ⟨d, e⟩
  · cases h
/-- behind the block the slots are as they were -/
theorem Sep.rest {G0 G R H : Hp} {σ : L2.St} {en0 en : En} {vs : List Nat} (S0 : ∃ H0, Sep Y G0 R H0 σ en0) (s : Same G0 G) (S : Sep Y G R H (L2.wipe σ vs) (wipeE en vs)) (hl : en.length = en0.length) (hs : ∀ v ∈ vs, shE en0 v = true) : Sep Y G R H σ (restE en0 (wipeE en vs) vs) := by
  obtain ⟨H0, S0⟩ := S0
  have ll : (wipeE en vs).length = en0.length := by rw [wipeE_len]; exact hl
  have on : ∀ {i : Nat} {x : Ow × D}, i ∈ vs → (restE en0 (wipeE en vs) vs)[i]? = some (some x) → ∃ d, x = (.sh, d) ∧ ∃ v, σ[i]? = some (some v) ∧ Rep Y G v d := fun {i x} hi e => by
    rw [restE_on en0 _ ll hi] at e
    rcases shE_cases (hs i hi) with q | ⟨d, q⟩
    · rw [q] at e; cases e
    · rw [q] at e; cases e
      obtain ⟨v, h1, h2⟩ := S0.sh i .sh d q rfl
      exact ⟨d, rfl, v, h1, h2.mono s⟩
  have off : ∀ {i : Nat}, i ∉ vs → (restE en0 (wipeE en vs) vs)[i]? = (wipeE en vs)[i]? := fun hi => restE_off en0 _ hi
  have notOn : ∀ {i : Nat}, isOwnC (restE en0 (wipeE en vs) vs)[i]? = true → i ∉ vs := fun {i} h hi => by
    obtain ⟨ow, d, e, k⟩ := isOwnC_get h
    obtain ⟨d', e', _⟩ := on hi e
    cases e'; cases k
  refine ⟨S.gH, S.rH, S.gr, by rw [restE_len, wipeE_len, hl]; exact S0.len, fun i ow d e k => ?_, fun i ow d e k => ?_, fun i j a e1 e2 q1 q2 => ?_, S.tb⟩
  · by_cases hi : i ∈ vs
    · obtain ⟨d', e', v, h1, h2⟩ := on hi e
      cases e'
      exact ⟨v, h1, h2⟩
    · rw [off hi] at e
      obtain ⟨v, h1, h2⟩ := S.sh i ow d e k
      rw [wipe_off hi] at h1
      exact ⟨v, h1, h2⟩
  · have hi := notOn (i := i) (by rw [e]; exact k)
    rw [off hi] at e
    obtain ⟨a, h1, h2⟩ := S.own i ow d e k
    rw [wipe_off hi] at h1
    exact ⟨a, h1, h2⟩
  · have h1 := notOn e1
    have h2 := notOn e2
    rw [off h1] at e1; rw [off h2] at e2
    exact S.apart i j a e1 e2 (by rw [wipe_off h1]; exact q1) (by rw [wipe_off h2]; exact q2)
theorem Keep.rest {σ : L2.St} {en0 en : En} {vs : List Nat} (k : Keep (L2.wipe σ vs) (wipeE en0 vs) (L2.wipe σ vs) (wipeE en vs)) (hl : en.length = en0.length) (hs : ∀ v ∈ vs, shE en0 v = true) : Keep σ en0 σ (restE en0 (wipeE en vs) vs) := fun i => by
  refine ⟨?_, fun _ => rfl⟩
  by_cases hi : i ∈ vs
  · rw [restE_on en0 _ (by rw [wipeE_len]; exact hl) hi]
  · rw [restE_off en0 _ hi]
    have := (k i).1
    rw [wipeE_off en0 hi] at this
    exact this
theorem stVar_len {i : Nat} {d : D} {own : Bool} {en en' : En} (e : stVar i d own en = some en') : en'.length = en.length := by
  obtain ⟨_, _, rfl⟩ := stVar_ok e
  rw [List.length_set]
theorem stVars_len : ∀ {is : List Nat} {ds : List D} {en en' : En}, stVars is ds en = some en' → en'.length = en.length
  | [], [], en, en', e => by cases e; rfl
  | i :: is, d :: ds, en, en', e => by
    simp only [stVars] at e
    split at e
    · rename_i en1 q
      rw [stVars_len e, stVar_len q]
    · cases e
  | [], _ :: _, _, _, e => by cases e
  | _ :: _, [], _, _, e => by cases e
theorem stTg_len {tg : Tg} {d : D} {own : Bool} {en en' : En} (e : stTg tg d own en = some en') : en'.length = en.length := by
  unfold stTg at e
  split at e
  · exact stVar_len e
  · exact stVars_len e
  · split at e
    · rename_i q
      rw [stVars_len e, stVar_len q]
    · cases e
  · cases e
/-- what is left of a comprehension's loop at the i-th item -/
def LcI (Y : Wd) (W : WX) (U : Ev) (G1 R : Hp) (σ : L2.St) (en1 : En) (vs : List Nat) (tg : Tg) (c' e' : E) (items : List D) (Q : VK) (D1 : Addr) (i : Nat) (H : Hp) : Prop :=
  i ≤ items.length ∧ ∃ (G2 : Hp) (en2 : En) (accD : List D) (accV : List V), Same G1 G2 ∧ en2.length = en1.length ∧ Keep (L2.wipe σ vs) (wipeE en1 vs) (L2.wipe σ vs) (wipeE en2 vs) ∧
    Sep Y G2 (upd R D1 (.lst accV)) H (L2.wipe σ vs) (wipeE en2 vs) ∧ RepL Y G2 accV accD ∧
    Pst Y W (okV Y) G1 R σ en1 ((loopC vs tg (fun en => toB (evE U.C U.md c' en)) (fun en => evE U.C U.md e' en) (items.drop i) accD (wipeE en2 vs)).bind fun xs en' => .ok (.lst xs, true) (restE en1 en' vs)) Q
/-- .. behind the test -/
theorem lc_behind {G1 R : Hp} {σ σ3 : L2.St} {en1 en3 en4 : En} {vs : List Nat} {tg : Tg} {c' e' : E} {items : List D} {Q : VK} {D1 : Addr} {i : Nat} {H4 G2 G4 : Hp} {accD : List D} {accV : List V} {en2 : En} {b : Bool}
    (hlt : i < items.length) (s4 : Same G1 G4) (l3 : σ3.length = σ.length) (off4 : ∀ j : Nat, j ∉ vs → σ3[j]? = σ[j]?) (l4 : en4.length = en1.length) (k4 : Keep (L2.wipe σ vs) (wipeE en1 vs) σ3 en4) (hB : ∀ j ∈ vs, isBC en4[j]? = false) (S4 : Sep Y G4 (upd R D1 (.lst accV)) H4 σ3 en4) (ra : RepL Y G4 accV accD)
    (p : Pst Y W (okV Y) G1 R σ en1 ((if b = true then (noEr (evE U.C U.md e' en4)).bind fun p en => if decide (accD.length < sizeLine) = true then loopC vs tg (fun en => toB (evE U.C U.md c' en)) (fun en => evE U.C U.md e' en) (items.drop (i + 1)) (accD ++ [p.1]) (wipeE en vs) else .bad
      else loopC vs tg (fun en => toB (evE U.C U.md c' en)) (fun en => evE U.C U.md e' en) (items.drop (i + 1)) accD (wipeE en4 vs)).bind fun xs en' => .ok (.lst xs, true) (restE en1 en' vs)) Q) :
    if b = true then rdE Y W0 U e' σ3 H4 fun y H5 => ∃ acc, H5 D1 = some (.lst acc) ∧ acc.length < sizeLine ∧ LcI Y W U G1 R σ en1 vs tg c' e' items Q D1 (i + 1) (upd H5 D1 (.lst (acc ++ [y])))
    else LcI Y W U G1 R σ en1 vs tg c' e' items Q D1 (i + 1) H4 := by
  have weq : L2.wipe σ3 vs = L2.wipe σ vs := wipe_eq l3 off4
  have kw : ∀ {en5 : En}, en5.length = en1.length → Keep σ3 en4 σ3 en5 → Keep (L2.wipe σ vs) (wipeE en1 vs) (L2.wipe σ vs) (wipeE en5 vs) := fun {en5} l5 k5 j => by
    refine ⟨?_, fun _ => rfl⟩
    by_cases hj : j ∈ vs
    · have z : ∀ (en : En), isBC (wipeE en vs)[j]? = false := fun en => by
        cases q : (wipeE en vs)[j]? with
        | none => rfl
        | some c =>
          cases c with
          | none => rfl
          | some x => exact absurd q (wipeE_on en hj x)
      rw [z, z]
    · rw [wipeE_off en5 hj, (k5 j).1, (k4 j).1]
  cases b with
  | true =>
    rw [if_pos rfl] at p ⊢
    refine ⟨G4, _, en4, S4, ?_⟩
    cases q : evE U.C U.md e' en4 with
    | er x en => rw [q] at p; exact p.elim
    | bad => rw [q] at p; exact p.elim
    | ok pp en5 =>
      rw [q] at p
      intro v H5 G5 s5 k5 S5 o5
      have o5 : Vok Y G5 (upd R D1 (.lst accV)) H5 σ3 en5 v pp.1 pp.2 := o5
      obtain ⟨G6, s6, S6, r6⟩ := Vok.share S5 o5
      have hl : decide (accD.length < sizeLine) = true ∨ decide (accD.length < sizeLine) = false := by cases decide (accD.length < sizeLine) <;> simp
      rcases hl with hl | hl
      · have p : Pst Y W (okV Y) G1 R σ en1 ((if decide (accD.length < sizeLine) = true then loopC vs tg (fun en => toB (evE U.C U.md c' en)) (fun en => evE U.C U.md e' en) (items.drop (i + 1)) (accD ++ [pp.1]) (wipeE en5 vs) else .bad).bind fun xs en' => .ok (.lst xs, true) (restE en1 en' vs)) Q := p
        rw [if_pos hl] at p
        have hD : (upd R D1 (.lst accV)) D1 = some (.lst accV) := upd_same
        have lv : accV.length = accD.length := ra.length
        have l5 : en5.length = en1.length := by rw [← l4, ← S4.len, S5.len]
        refine ⟨accV, S5.rH _ _ hD, by rw [lv]; exact of_decide_eq_true hl, hlt, G6, en5, accD ++ [pp.1], accV ++ [v], (s4.trans s5).trans s6, l5, kw l5 k5, ?_, ((ra.mono s5).mono s6).append (.cons r6 .nil), p⟩
        have S7 := S6.wrR (o' := .lst (accV ++ [v])) hD rfl
        rw [upd_upd] at S7
        rw [← weq]
        exact S7.wipe rfl fun _ _ => rfl
      · have p : Pst Y W (okV Y) G1 R σ en1 ((if decide (accD.length < sizeLine) = true then loopC vs tg (fun en => toB (evE U.C U.md c' en)) (fun en => evE U.C U.md e' en) (items.drop (i + 1)) (accD ++ [pp.1]) (wipeE en5 vs) else .bad).bind fun xs en' => .ok (.lst xs, true) (restE en1 en' vs)) Q := p
        rw [if_neg (by rw [hl]; decide)] at p
        exact p.elim
  | false =>
    rw [if_neg (by decide)] at p ⊢
    refine ⟨hlt, G4, en4, accD, accV, s4, l4, kw l4 (Keep.refl _ _), ?_, ra, p⟩
    rw [← weq]
    exact S4.wipe rfl fun _ _ => rfl
theorem stVar_B {i : Nat} {d : D} {own : Bool} {en en' : En} (e : stVar i d own en = some en') {j : Nat} (h : isBC en[j]? = false) : isBC en'[j]? = false := by
  have := (Keep.st (σ := []) (v := none) e j).1
  rw [this]; exact h
/-- the reading of a comprehension behind what is walked -/
theorem lc_coreR {σ : L2.St} {Q : VK} {vs : List Nat} {tg : Tg} {c' e' : E} {tt : TT} {G1 R H1 : Hp} {en1 : En} {items : List D} {J : It} (ht : tt = rdT Y W0 U c' ∨ (tt = tYes ∧ c' = .cst (.bl true)))
    (gv : GivesR Y J items G1 R) (S1 : Sep Y G1 R H1 σ en1) (hs : ∀ v ∈ vs, shE en1 v = true) (hsl : ∀ j, j ∈ tg.slots → j ∈ vs)
    (p1 : Pst Y W (okV Y) G1 R σ en1 ((loopC vs tg (fun en => toB (evE U.C U.md c' en)) (fun en => evE U.C U.md e' en) items [] (wipeE en1 vs)).bind fun xs en' => .ok (.lst xs, true) (restE en1 en' vs)) Q) :
    tLc (fun _ H RR => RR J H) (rdG Y tg) tt (rdE Y W0 U e') vs σ H1 Q := by
  intro D1 hD
  refine ⟨fun i m H => m = items.length - i ∧ LcI Y W U G1 R σ en1 vs tg c' e' items Q D1 i H, ⟨items.length, rfl, Nat.zero_le _, G1, en1, [], [], Same.refl _, rfl, Keep.refl _ _, ?_, .nil, p1⟩, ?_⟩
  · have S2 : Sep Y G1 R (upd H1 D1 (.lst [])) (L2.wipe σ vs) (wipeE en1 vs) := (S1.new hD).wipe rfl fun _ _ => rfl
    exact S2.reserve upd_same (S1.gnone hD) ((S1.wipe (vs := vs) rfl fun _ _ => rfl).freeNew hD)
  rintro i m H ⟨rfl, hi, G2, en2, accD, accV, s2, l2, k2, S2, ra, p2⟩
  obtain ⟨g1, g2⟩ := gv i G2 _ H _ _ s2 (same_new (S1.rnone hD)) S2
  by_cases hlt : i < items.length
  · right
    have ei : items[i]? = some items[i] := List.getElem?_eq_getElem hlt
    obtain ⟨go, yl⟩ := g1 _ ei
    refine ⟨go, LcI Y W U G1 R σ en1 vs tg c' e' items Q D1 (i + 1), fun H' n => ⟨items.length - (i + 1), by omega, rfl, n⟩, fun x H' y => ?_⟩
    obtain ⟨G3, s3, S3, r3⟩ := yl x H' y
    rw [List.drop_eq_getElem_cons hlt] at p2
    simp only [loopC] at p2
    refine ⟨G3, _, wipeE en2 vs, items[i], false, S3, r3, ?_⟩
    cases est : stTg tg items[i] false (wipeE en2 vs) with
    | none => rw [est] at p2; exact p2.elim
    | some en3 =>
      rw [est] at p2
      intro σ3 k3 S4 off3
      have l3e : en3.length = en1.length := by rw [stTg_len est, wipeE_len, l2]
      have l3 : σ3.length = σ.length := by rw [S4.len, l3e, ← S1.len]
      have off4 : ∀ j : Nat, j ∉ vs → σ3[j]? = σ[j]? := fun j hj => by rw [off3 j (fun z => hj (hsl j z)), wipe_off hj]
      have weq : L2.wipe σ3 vs = L2.wipe σ vs := wipe_eq l3 off4
      have ww : L2.wipe (L2.wipe σ vs) vs = L2.wipe σ vs := wipe_eq (wipe_length _ _) (fun j hj => wipe_off hj)
      have k4 : Keep (L2.wipe σ vs) (wipeE en1 vs) σ3 en3 := k2.trans k3
      have wB : ∀ (en : En) (j : Nat), j ∈ vs → isBC (wipeE en vs)[j]? = false := fun en j hj => by
        cases q : (wipeE en vs)[j]? with
        | none => rfl
        | some c =>
          cases c with
          | none => rfl
          | some x => exact absurd q (wipeE_on en hj x)
      have hB : ∀ j ∈ vs, isBC en3[j]? = false := fun j hj => by rw [(k4 j).1, wB en1 j hj]
      refine ⟨weq, ?_⟩
      rcases ht with rfl | ⟨rfl, rfl⟩
      · refine ⟨G3, _, en3, S4, ?_⟩
        have p2 : Pst Y W (okV Y) G1 R σ en1 (((noEr (toB (evE U.C U.md c' en3))).bind fun kb en => if kb = true then (noEr (evE U.C U.md e' en)).bind fun p en => if decide (accD.length < sizeLine) = true then loopC vs tg (fun en => toB (evE U.C U.md c' en)) (fun en => evE U.C U.md e' en) (items.drop (i + 1)) (accD ++ [p.1]) (wipeE en vs) else .bad
            else loopC vs tg (fun en => toB (evE U.C U.md c' en)) (fun en => evE U.C U.md e' en) (items.drop (i + 1)) accD (wipeE en vs)).bind fun xs en' => .ok (.lst xs, true) (restE en1 en' vs)) Q := p2
        dsimp only
        cases q : toB (evE U.C U.md c' en3) with
        | er x en => rw [q] at p2; exact p2.elim
        | bad => rw [q] at p2; exact p2.elim
        | ok kb en4 =>
          rw [q] at p2
          intro kb' H4 G4 s4 k5 S5 o5
          cases (show kb' = kb from o5)
          exact lc_behind (G2 := G2) (en2 := en2) (en3 := en3) hlt ((s2.trans s3).trans s4) l3 off4 (by rw [← S5.len, S4.len, l3e]) (k4.trans k5) (fun j hj => by rw [(k5 j).1]; exact hB j hj) S5 ((ra.mono s3).mono s4) p2
      · exact lc_behind (b := true) (G2 := G2) (en2 := en2) (en3 := en3) hlt (s2.trans s3) l3 off4 l3e k4 hB S4 (ra.mono s3) p2
  · left
    have e : i = items.length := by omega
    subst e
    refine ⟨g2 rfl, ?_⟩
    rw [List.drop_length] at p2
    have p2 : Pst Y W (okV Y) G1 R σ en1 (.ok (.lst accD, true) (restE en1 (wipeE en2 vs) vs)) Q := p2
    have S3 := S2.lessR (R := R) (same_new (S1.rnone hD))
    have gD : G2 D1 = none := S2.gr D1 _ upd_same
    refine p2 (.ref D1) H G2 s2 (Keep.rest k2 l2 hs) (Sep.rest ⟨H1, S1⟩ s2 S3 l2 hs) ⟨D1, rfl, ⟨gD, S1.rnone hD, .lst (S2.rH _ _ upd_same) ra⟩, fun j hj z => ?_⟩
    obtain ⟨ow, d, e1, e2⟩ := isOwnC_get hj
    have hjv : j ∉ vs := fun hv => by
      rw [restE_on en1 _ (by rw [wipeE_len]; exact l2) hv] at e1
      rcases shE_cases (hs j hv) with q | ⟨d', q⟩
      · rw [q] at e1; cases e1
      · rw [q] at e1; cases e1; cases e2
    rw [restE_off en1 _ hjv] at e1
    obtain ⟨a, h1, h2⟩ := S2.own j ow d e1 e2
    rw [wipe_off hjv, z] at h1
    cases h1
    have := h2.r
    rw [upd_same] at this
    cases this
/-- the reading of a comprehension: tt the tests', te the element's, both in the block -/
theorem lc_red {σ : L2.St} {H : Hp} {Q : VK} {vs : List Nat} {tg : Tg} {k : ItK} {as' : Es} {c' e' : E} {tt : TT} (ht : tt = rdT Y W0 U c' ∨ (tt = tYes ∧ c' = .cst (.bl true)))
    (h : rdE Y W U (.lc vs tg k as' c' e') σ H Q) : tLc (rdI Y W U k as') (rdG Y tg) tt (rdE Y W0 U e') vs σ H Q := by
  obtain ⟨G, R, en, S, p⟩ := h
  refine ⟨G, R, en, S, ?_⟩
  rw [evE] at p
  have p : Pst Y W (okV Y) G R σ en ((evI U.C U.md k as' en).bind fun items en => if (vs.all (shE en) && tg.slots.all vs.contains) = true then
      (loopC vs tg (fun en => toB (evE U.C U.md c' en)) (fun en => evE U.C U.md e' en) items [] (wipeE en vs)).bind fun xs en' => .ok (.lst xs, true) (restE en en' vs) else .bad) Q := by
    unfold evI; rw [Rs.bind_assoc]; exact p
  refine Pst.bind p fun items en1 J H1 G1 _ s1 k1 S1 gv p1 => ?_
  split at p1
  case isFalse => exact p1.elim
  case isTrue hcond =>
  obtain ⟨hc1, hc2⟩ := Bool.and_eq_true_iff.mp hcond
  have hs : ∀ v ∈ vs, shE en1 v = true := fun v hv => List.all_eq_true.mp hc1 v hv
  have hsl : ∀ j, j ∈ tg.slots → j ∈ vs := fun j hj => by simpa using List.all_eq_true.mp hc2 j hj
  exact lc_coreR ht gv.r S1 hs hsl p1
end
end L3

/-! L3H: comprehensions and calls as expressions. -/
namespace L3
open PySem PySem.Spec PyProof.Rows L2
section
variable {X : Cx} {Y : Wd} {W : WX} {U : Ev}
/-! ### comprehensions -/
theorem s_lc0 {elt tg iter : Expr} {scope : Scope} {own : List (Str × Nat)} {pos : Pos} {tm : Tg} {k : ItK} {as' : Es} {e' : E} (hc : X.calm = true) (nd : X.N.Nodup) (hi : PI X tg iter (rdI Y W U k as')) (ok : BlkOk X.N X.env.scope scope own)
    (hg : ∀ (s : Shared) (H : Hp) (C : Addr) (cl : List (Str × Addr)) (fp : List Addr), PG (X.blk s H scope (compEnvC scope cl C X.env) fp) tg (rdG Y tm))
    (he : ∀ (s : Shared) (H : Hp) (C : Addr) (cl : List (Str × Addr)) (fp : List Addr), PE (X.blk s H scope (compEnvC scope cl C X.env) fp) elt (rdE Y W0 U e')) (hs : ∀ x, foldedSetIterable iter X.env x = pure x := by intro _; rfl) :
    PE X (.ListComp elt [⟨tg, iter, [], 0⟩] scope pos) (rdE Y W U (.lc (own.map (·.2)) tm k as' (.cst (.bl true)) e')) :=
  (pe_lc (tt := tYes) hc nd hi ok hg (fun _ _ _ _ _ => pts_nil) he hs).imp fun _ _ _ q => lc_red (.inr ⟨rfl, rfl⟩) q
theorem s_lc1 {elt tg iter c : Expr} {scope : Scope} {own : List (Str × Nat)} {pos : Pos} {tm : Tg} {k : ItK} {as' : Es} {e' c' : E} (hc : X.calm = true) (nd : X.N.Nodup) (hi : PI X tg iter (rdI Y W U k as')) (ok : BlkOk X.N X.env.scope scope own)
    (hg : ∀ (s : Shared) (H : Hp) (C : Addr) (cl : List (Str × Addr)) (fp : List Addr), PG (X.blk s H scope (compEnvC scope cl C X.env) fp) tg (rdG Y tm))
    (ht : ∀ (s : Shared) (H : Hp) (C : Addr) (cl : List (Str × Addr)) (fp : List Addr), PT (X.blk s H scope (compEnvC scope cl C X.env) fp) c (rdT Y W0 U c'))
    (he : ∀ (s : Shared) (H : Hp) (C : Addr) (cl : List (Str × Addr)) (fp : List Addr), PE (X.blk s H scope (compEnvC scope cl C X.env) fp) elt (rdE Y W0 U e')) (hs : ∀ x, foldedSetIterable iter X.env x = pure x := by intro _; rfl) :
    PE X (.ListComp elt [⟨tg, iter, [c], 0⟩] scope pos) (rdE Y W U (.lc (own.map (·.2)) tm k as' c' e')) :=
  (pe_lc (tt := rdT Y W0 U c') hc nd hi ok hg (fun s H C cl fp => pts_one (ht s H C cl fp)) he hs).imp fun _ _ _ q => lc_red (.inl rfl) q

/-! ### a def's promise -/
def PstF (Y : Wd) (G R : Hp) (vs : List V) (r : CRes) (Q : VK) (E : XK) : Prop := match r with
  | .ok d own outs => ∀ v H' G', Same G G' → Sep Y G' R H' (vs.map some) outs → Vok Y G' R H' (vs.map some) outs v d own → Q v H'
  | .er x outs => ∀ cls dd H' G', Same G G' → Sep Y G' R H' (vs.map some) outs → ExOk Y G' x cls dd → E cls dd H'
  | .bad => False
/-- called with such arguments the def does what the evaluator says -/
def spF (Y : Wd) (f : List (Bool × D) → CRes) : Sp := fun vs H Q E => ∃ G R args, Sep Y G R H (vs.map some) (args.map cellOf) ∧ PstF Y G R vs (f args) Q E

/-! ### arguments lent -/
structure PassOk (Y : Wd) (G : Hp) (σ : L2.St) (en : En) (vs : List V) (avs : List Av) (args : List (Bool × D)) : Prop where
  la : avs.length = args.length
  lv : vs.length = args.length
  sh : ∀ (k : Nat) (d : D), args[k]? = some (false, d) → ∃ v, vs[k]? = some v ∧ Rep Y G v d
  ln : ∀ (k : Nat) (d : D), args[k]? = some (true, d) → ∃ i ow v, avs[k]? = some (.p i) ∧ en[i]? = some (some (ow, d)) ∧ ow.isOwn = true ∧ vs[k]? = some v ∧ σ[i]? = some (some v)
  nd : ∀ (k k' i : Nat) (d d' : D), args[k]? = some (true, d) → args[k']? = some (true, d') → avs[k]? = some (.p i) → avs[k']? = some (.p i) → k = k'
theorem pass_ok {G R H : Hp} {σ : L2.St} {en : En} (S : Sep Y G R H σ en) : ∀ {ms : List Bool} {avs : List Av} {us : List Nat} {vs : List V} {args : List (Bool × D)}, passA ms avs us en = some args → AokL Y G σ en vs avs →
    PassOk Y G σ en vs avs args ∧ ∀ (k i : Nat) (d : D), args[k]? = some (true, d) → avs[k]? = some (.p i) → i ∉ us
  | [], [], us, [], args, e, o => by
    cases e
    exact ⟨⟨rfl, rfl, fun k d h => by simp at h, fun k d h => by simp at h, fun k k' i d d' h => by simp at h⟩, fun k i d h => by simp at h⟩
  | m :: ms, .v d :: avs, us, v :: vs, args, e, o => by
    simp only [passA] at e
    split at e
    · rename_i r q
      cases e
      obtain ⟨P, N⟩ := pass_ok S q o.2
      refine ⟨⟨by simp [P.la], by simp [P.lv], fun k d' h => ?_, fun k d' h => ?_, fun k k' i d' d2 h1 h2 h3 h4 => ?_⟩, fun k i d' h1 h2 => ?_⟩
      · cases k with
        | zero => simp at h; subst h; exact ⟨v, rfl, o.1⟩
        | succ k => exact P.sh k d' (by simpa using h)
      · cases k with
        | zero => simp at h
        | succ k => exact P.ln k d' (by simpa using h)
      · cases k with
        | zero => simp at h1
        | succ k =>
          cases k' with
          | zero => simp at h2
          | succ k' => exact congrArg _ (P.nd k k' i d' d2 (by simpa using h1) (by simpa using h2) (by simpa using h3) (by simpa using h4))
      · cases k with
        | zero => simp at h1
        | succ k => exact N k i d' (by simpa using h1) (by simpa using h2)
    · cases e
  | m :: ms, .p i :: avs, us, v :: vs, args, e, o => by
    simp only [passA] at e
    split at e
    · rename_i ow d hi
      have o1 : σ[i]? = some (some v) := o.1
      split at e
      · rename_i hown
        split at e
        · rename_i hm
          obtain ⟨_, hm2⟩ := Bool.and_eq_true_iff.mp hm
          have hus : i ∉ us := by simpa using hm2
          split at e
          · rename_i r q
            cases e
            obtain ⟨P, N⟩ := pass_ok S q o.2
            refine ⟨⟨by simp [P.la], by simp [P.lv], fun k d' h => ?_, fun k d' h => ?_, fun k k' j d' d2 h1 h2 h3 h4 => ?_⟩, fun k j d' h1 h2 => ?_⟩
            · cases k with
              | zero => simp at h
              | succ k => exact P.sh k d' (by simpa using h)
            · cases k with
              | zero => simp at h; subst h; exact ⟨i, ow, v, rfl, hi, hown, rfl, o1⟩
              | succ k => exact P.ln k d' (by simpa using h)
            · cases k with
              | zero =>
                cases k' with
                | zero => rfl
                | succ k' =>
                  simp at h3; subst h3
                  exact absurd List.mem_cons_self (N k' i d2 (by simpa using h2) (by simpa using h4))
              | succ k =>
                cases k' with
                | zero =>
                  simp at h4; subst h4
                  exact absurd List.mem_cons_self (N k i d' (by simpa using h1) (by simpa using h3))
                | succ k' => exact congrArg _ (P.nd k k' j d' d2 (by simpa using h1) (by simpa using h2) (by simpa using h3) (by simpa using h4))
            · cases k with
              | zero => simp at h2; subst h2; exact hus
              | succ k => exact fun z => N k j d' (by simpa using h1) (by simpa using h2) (List.mem_cons_of_mem _ z)
          · cases e
        · cases e
      · rename_i hown
        have hown : ow.isOwn = false := by simpa using hown
        split at e
        · rename_i r q
          cases e
          obtain ⟨P, N⟩ := pass_ok S q o.2
          obtain ⟨v', e1, r1⟩ := S.sh i ow d hi hown
          rw [o1] at e1; cases e1
          refine ⟨⟨by simp [P.la], by simp [P.lv], fun k d' h => ?_, fun k d' h => ?_, fun k k' j d' d2 h1 h2 h3 h4 => ?_⟩, fun k j d' h1 h2 => ?_⟩
          · cases k with
            | zero => simp at h; subst h; exact ⟨v, rfl, r1⟩
            | succ k => exact P.sh k d' (by simpa using h)
          · cases k with
            | zero => simp at h
            | succ k => exact P.ln k d' (by simpa using h)
          · cases k with
            | zero => simp at h1
            | succ k =>
              cases k' with
              | zero => simp at h2
              | succ k' => exact congrArg _ (P.nd k k' j d' d2 (by simpa using h1) (by simpa using h2) (by simpa using h3) (by simpa using h4))
          · cases k with
            | zero => simp at h1
            | succ k => exact N k j d' (by simpa using h1) (by simpa using h2)
        · cases e
    · cases e
  | [], _ :: _, _, _, _, e, _ => by cases e
  | _ :: _, [], _, _, _, e, _ => by cases e
  | [], [], _, _ :: _, _, _, o => o.elim
  | _ :: _, _ :: _, _, [], _, _, o => o.elim
/-- slot i is lent -/
def Lent (avs : List Av) (args : List (Bool × D)) (i : Nat) : Prop := ∃ (k : Nat) (d : D), args[k]? = some (true, d) ∧ avs[k]? = some (.p i)
open Classical in
/-- what the callee must leave alone -/
noncomputable def restR (R H : Hp) (σ : L2.St) (en : En) (avs : List Av) (args : List (Bool × D)) : Hp := fun a =>
  if (R a).isSome = true then R a else if ∃ i : Nat, isOwnC en[i]? = true ∧ ¬ Lent avs args i ∧ σ[i]? = some (some (.ref a)) then H a else none
section
variable {G R H : Hp} {σ : L2.St} {en : En} {vs : List V} {avs : List Av} {args : List (Bool × D)}
theorem restR_R (a : Addr) (o : HO) (e : R a = some o) : restR R H σ en avs args a = some o := by
  unfold restR; rw [if_pos (by rw [e]; rfl)]; exact e
theorem restR_own {i : Nat} {a : Addr} (r : R a = none) (h : isOwnC en[i]? = true) (nl : ¬ Lent avs args i) (e : σ[i]? = some (some (.ref a))) : restR R H σ en avs args a = H a := by
  unfold restR; rw [if_neg (by rw [r]; decide), if_pos ⟨i, h, nl, e⟩]
theorem restR_some {a : Addr} {o : HO} (e : restR R H σ en avs args a = some o) : R a = some o ∨ (H a = some o ∧ ∃ i : Nat, isOwnC en[i]? = true ∧ ¬ Lent avs args i ∧ σ[i]? = some (some (.ref a))) := by
  unfold restR at e
  split at e
  · exact .inl e
  · split at e
    · rename_i h; exact .inr ⟨e, h⟩
    · cases e
/-- the callee's state -/
theorem pass_sep (S : Sep Y G R H σ en) (P : PassOk Y G σ en vs avs args) : Sep Y G (restR R H σ en avs args) H (vs.map some) (args.map cellOf) := by
  have cell : ∀ {k : Nat} {ow : Ow} {d : D}, (args.map cellOf)[k]? = some (some (ow, d)) → (args[k]? = some (true, d) ∧ ow = .brw) ∨ (args[k]? = some (false, d) ∧ ow = .sh) := fun {k ow d} e => by
    rw [List.getElem?_map] at e
    cases q : args[k]? with
    | none => rw [q] at e; cases e
    | some p =>
      obtain ⟨b, d'⟩ := p
      rw [q] at e
      cases b with
      | true => cases e; exact .inl ⟨rfl, rfl⟩
      | false => cases e; exact .inr ⟨rfl, rfl⟩
  have vget : ∀ {k : Nat} {v : V}, vs[k]? = some v → (vs.map some)[k]? = some (some v) := fun {k v} e => by rw [List.getElem?_map, e]; rfl
  refine ⟨S.gH, fun a o e => ?_, fun a o e => ?_, by simp [P.lv], fun k ow d e h => ?_, fun k ow d e h => ?_, fun k k' a e1 e2 q1 q2 => ?_, ⟨S.tb.t, S.tb.g, fun a ps z => ?_⟩⟩
  · rcases restR_some e with e | ⟨e, _⟩
    · exact S.rH a o e
    · exact e
  · rcases restR_some e with e | ⟨e, i, h1, _, h3⟩
    · exact S.gr a o e
    · obtain ⟨ow, d, f1, f2⟩ := isOwnC_get h1
      obtain ⟨a', f3, f4⟩ := S.own i ow d f1 f2
      rw [h3] at f3; cases f3
      exact f4.g
  · rcases cell e with ⟨q, rfl⟩ | ⟨q, rfl⟩
    · cases h
    · obtain ⟨v, h1, h2⟩ := P.sh k d q
      exact ⟨v, vget h1, h2⟩
  · rcases cell e with ⟨q, rfl⟩ | ⟨q, rfl⟩
    · obtain ⟨i, ow, v, h1, h2, h3, h4, h5⟩ := P.ln k d q
      obtain ⟨a, f3, f4⟩ := S.own i ow d h2 h3
      rw [h5] at f3; cases f3
      refine ⟨a, vget h4, f4.g, ?_, f4.t⟩
      cases z : restR R H σ en avs args a with
      | none => rfl
      | some o =>
        rcases restR_some z with z | ⟨_, j, g1, g2, g3⟩
        · rw [f4.r] at z; cases z
        · have : j = i := S.apart j i a g1 (by rw [h2]; exact h3) g3 h5
          subst this
          exact absurd ⟨k, d, q, h1⟩ g2
    · cases h
  · obtain ⟨ow, d, f1, f2⟩ := isOwnC_get e1
    obtain ⟨ow', d', f3, f4⟩ := isOwnC_get e2
    rcases cell f1 with ⟨g1, rfl⟩ | ⟨g1, rfl⟩
    · rcases cell f3 with ⟨g2, rfl⟩ | ⟨g2, rfl⟩
      · obtain ⟨i, ow, v, h1, h2, h3, h4, h5⟩ := P.ln k d g1
        obtain ⟨i', ow', v', h1', h2', h3', h4', h5'⟩ := P.ln k' d' g2
        rw [vget h4] at q1; cases q1
        rw [vget h4'] at q2; cases q2
        have : i = i' := S.apart i i' a (by rw [h2]; exact h3) (by rw [h2']; exact h3') h5 h5'
        subst this
        exact P.nd k k' i d d' g1 g2 h1 h1'
      · cases f4
    · cases f2
  · rcases restR_some z with z | ⟨e, i, h1, _, h3⟩
    · exact S.tb.r a ps z
    · obtain ⟨ow, d, f1, f2⟩ := isOwnC_get h1
      obtain ⟨a', f3, f4⟩ := S.own i ow d f1 f2
      rw [h3] at f3; cases f3
      obtain ⟨o, g1, g2⟩ := f4.t.at
      rw [g1] at e
      cases e
      cases g2
structure BackOk (en en2 : En) (avs : List Av) (args : List (Bool × D)) (outs : List Cell) : Prop where
  len : en2.length = en.length
  off : ∀ i : Nat, ¬ Lent avs args i → en2[i]? = en[i]?
  on : ∀ (k i : Nat) (d : D), args[k]? = some (true, d) → avs[k]? = some (.p i) → ∃ ow d0 ow' d' ow2, en[i]? = some (some (ow, d0)) ∧ outs[k]? = some (some (ow', d')) ∧ en2[i]? = some (some (ow2, d')) ∧
    ((ow' = .brw ∧ ow2 = ow) ∨ (ow' = .brs ∧ ow2 = if ow = .brw then .brs else .sh))
theorem back_ok : ∀ {avs : List Av} {args : List (Bool × D)} {outs : List Cell} {en en2 : En}, backA avs args outs en = some en2 →
    (∀ (k k' i : Nat) (d d' : D), args[k]? = some (true, d) → args[k']? = some (true, d') → avs[k]? = some (.p i) → avs[k']? = some (.p i) → k = k') → BackOk en en2 avs args outs
  | [], [], outs, en, en2, e, nd => by
    cases e
    exact ⟨rfl, fun _ _ => rfl, fun k i d h => by simp at h⟩
  | .p i :: avs, (true, d) :: args, o :: outs, en, en2, e, nd => by
    have nd' : ∀ (k k' i : Nat) (d d' : D), args[k]? = some (true, d) → args[k']? = some (true, d') → avs[k]? = some (.p i) → avs[k']? = some (.p i) → k = k' := fun k k' i d d' h1 h2 h3 h4 => by
      have := nd (k + 1) (k' + 1) i d d' (by simpa using h1) (by simpa using h2) (by simpa using h3) (by simpa using h4)
      omega
    have notIn : ¬ Lent avs args i := fun ⟨k, d', h1, h2⟩ => by
      have := nd 0 (k + 1) i d d' rfl (by simpa using h1) rfl (by simpa using h2)
      omega
    simp only [backA] at e
    split at e
    · rename_i ow d0 ow' d' hi
      have il := lt_of_get hi
      have main : ∀ (ow2 : Ow), backA avs args outs (en.set i (some (ow2, d'))) = some en2 → ((ow' = .brw ∧ ow2 = ow) ∨ (ow' = .brs ∧ ow2 = if ow = .brw then .brs else .sh)) → BackOk en en2 (.p i :: avs) ((true, d) :: args) (some (ow', d') :: outs) := fun ow2 e2 hw => by
        have B := back_ok e2 nd'
        refine ⟨by rw [B.len, List.length_set], fun j hj => ?_, fun k j d2 h1 h2 => ?_⟩
        · have h1 : ¬ Lent avs args j := fun ⟨k, d', h1, h2⟩ => hj ⟨k + 1, d', by simpa using h1, by simpa using h2⟩
          have h2 : i ≠ j := fun z => hj ⟨0, d, rfl, by rw [z]; rfl⟩
          rw [B.off j h1, get_set_ne h2]
        · cases k with
          | zero =>
            simp at h2; subst h2
            exact ⟨ow, d0, ow', d', ow2, hi, rfl, by rw [B.off i notIn, get_set_same il], hw⟩
          | succ k =>
            have h1' : args[k]? = some (true, d2) := by simpa using h1
            have h2' : avs[k]? = some (.p j) := by simpa using h2
            have hij : i ≠ j := fun z => notIn ⟨k, d2, h1', by rw [z]; exact h2'⟩
            obtain ⟨a1, a2, a3, a4, a5, b1, b2, b3, b4⟩ := B.on k j d2 h1' h2'
            rw [get_set_ne hij] at b1
            exact ⟨a1, a2, a3, a4, a5, b1, by simpa using b2, b3, b4⟩
      split at e
      · rename_i hw; exact main ow e (.inl ⟨hw, rfl⟩)
      · split at e
        · rename_i hw; exact main _ e (.inr ⟨hw, rfl⟩)
        · cases e
    · cases e
  | a :: avs, (false, d) :: args, o :: outs, en, en2, e, nd => by
    have e : backA avs args outs en = some en2 := by
      cases a <;> exact e
    have nd' : ∀ (k k' i : Nat) (d d' : D), args[k]? = some (true, d) → args[k']? = some (true, d') → avs[k]? = some (.p i) → avs[k']? = some (.p i) → k = k' := fun k k' i d d' h1 h2 h3 h4 => by
      have := nd (k + 1) (k' + 1) i d d' (by simpa using h1) (by simpa using h2) (by simpa using h3) (by simpa using h4)
      omega
    have B := back_ok e nd'
    refine ⟨B.len, fun j hj => B.off j fun ⟨k, d', h1, h2⟩ => hj ⟨k + 1, d', by simpa using h1, by simpa using h2⟩, fun k j d2 h1 h2 => ?_⟩
    cases k with
    | zero => simp at h1
    | succ k =>
      obtain ⟨a1, a2, a3, a4, a5, b1, b2, b3, b4⟩ := B.on k j d2 (by simpa using h1) (by simpa using h2)
      exact ⟨a1, a2, a3, a4, a5, b1, by simpa using b2, b3, b4⟩
  | .v _ :: _, (true, _) :: _, _, _, _, e, _ => by simp [backA] at e
  | _ :: _, (true, _) :: _, [], _, _, e, _ => by simp [backA] at e
  | _ :: _, (false, _) :: _, [], _, _, e, _ => by simp [backA] at e
  | [], _ :: _, _, _, _, e, _ => by simp [backA] at e
  | _ :: _, [], _, _, _, e, _ => by simp [backA] at e
end
end
end L3

/-! L3I: calls; statements. -/
namespace L3
open PySem PySem.Spec PyProof.Rows L2
section
variable {X : Cx} {Y : Wd} {W : WX} {U : Ev} {G G' R H H' : Hp} {σ : L2.St} {en en2 : En} {vs : List V} {avs : List Av} {args : List (Bool × D)} {outs : List Cell}
/-- behind the call -/
theorem back_sep (S : Sep Y G R H σ en) (P : PassOk Y G σ en vs avs args) (s : Same G G') (S' : Sep Y G' (restR R H σ en avs args) H' (vs.map some) outs) (B : BackOk en en2 avs args outs) :
    Sep Y G' R H' σ en2 ∧ Keep σ en σ en2 ∧ ∀ (v : V) (d : D) (own : Bool), Vok Y G' (restR R H σ en avs args) H' (vs.map some) outs v d own → Vok Y G' R H' σ en2 v d own := by
  have vget : ∀ {k : Nat} {v : V}, vs[k]? = some v → (vs.map some)[k]? = some (some v) := fun {k v} e => by rw [List.getElem?_map, e]; rfl
  -- a lent slot
  have on : ∀ {i : Nat}, Lent avs args i → ∃ (k : Nat) (v : V) (ow ow' ow2 : Ow) (d0 d' : D), en[i]? = some (some (ow, d0)) ∧ ow.isOwn = true ∧ outs[k]? = some (some (ow', d')) ∧ en2[i]? = some (some (ow2, d')) ∧ ((ow' = .brw ∧ ow2 = ow) ∨ (ow' = .brs ∧ ow2 = if ow = .brw then .brs else .sh)) ∧
      (vs.map some)[k]? = some (some v) ∧ σ[i]? = some (some v) := fun {i} ⟨k, d, h1, h2⟩ => by
    obtain ⟨i', ow0, v, p1, p2, p3, p4, p5⟩ := P.ln k d h1
    rw [h2] at p1; cases p1
    obtain ⟨ow, d0, ow', d', ow2, b1, b2, b3, b4⟩ := B.on k i d h1 h2
    rw [p2] at b1; cases b1
    exact ⟨k, v, ow0, ow', ow2, d, d', p2, p3, b2, b3, b4, vget p4, p5⟩
  have same_R : Same R (restR R H σ en avs args) := fun a o e => restR_R a o e
  have offO : ∀ {i : Nat}, ¬ Lent avs args i → ∀ {ow : Ow} {d : D} {a : Addr}, en[i]? = some (some (ow, d)) → ow.isOwn = true → σ[i]? = some (some (.ref a)) → OwnAt Y G R H a d → restR R H σ en avs args a = H a := fun {i} nl {ow d a} e k h o =>
    restR_own o.r (by rw [e]; exact k) nl h
  have sl : ∀ (i : Nat) (ow : Ow) (d : D), en2[i]? = some (some (ow, d)) → ow.isOwn = false → ∃ v, σ[i]? = some (some v) ∧ Rep Y G' v d := fun i ow d e k => by
    by_cases hl : Lent avs args i
    · obtain ⟨kk, v, ow0, ow', ow2, d0, d', e0, k0, o1, e2, hw, hv, hs⟩ := on hl
      rw [e] at e2; cases e2
      rcases hw with ⟨rfl, rfl⟩ | ⟨rfl, _⟩
      · rw [k0] at k; cases k
      · obtain ⟨v', f1, f2⟩ := S'.sh kk .brs _ o1 rfl
        rw [hv] at f1; cases f1
        exact ⟨v, hs, f2⟩
    · rw [B.off i hl] at e
      obtain ⟨v, f1, f2⟩ := S.sh i ow d e k
      exact ⟨v, f1, f2.mono s⟩
  have ol : ∀ (i : Nat) (ow : Ow) (d : D), en2[i]? = some (some (ow, d)) → ow.isOwn = true → ∃ a, σ[i]? = some (some (.ref a)) ∧ OwnAt Y G' R H' a d ∧ ((Lent avs args i ∧ restR R H σ en avs args a = none ∧ ∃ kk : Nat, isOwnC outs[kk]? = true ∧ (vs.map some)[kk]? = some (some (.ref a)) ∧ ∃ d, args[kk]? = some (true, d) ∧ avs[kk]? = some (.p i)) ∨ (¬ Lent avs args i ∧ isOwnC en[i]? = true ∧ (restR R H σ en avs args a).isSome = true)) := fun i ow d e k => by
    by_cases hl : Lent avs args i
    · obtain ⟨k0, dd, h1, h2⟩ := hl
      obtain ⟨i', ow0, v, p1, p2, p3, p4, p5⟩ := P.ln k0 dd h1
      rw [h2] at p1; cases p1
      obtain ⟨ow1, d0, ow', d', ow2, b1, b2, b3, hw⟩ := B.on k0 i dd h1 h2
      rw [p2] at b1; cases b1
      rw [e] at b3; cases b3
      rcases hw with ⟨rfl, rfl⟩ | ⟨rfl, hw⟩
      · obtain ⟨a, f1, f2⟩ := S'.own k0 .brw _ b2 rfl
        rw [vget p4] at f1; cases f1
        exact ⟨a, p5, ⟨f2.g, same_R.free f2.r, f2.t⟩, .inl ⟨⟨k0, _, h1, h2⟩, f2.r, k0, by rw [b2]; rfl, vget p4, _, h1, h2⟩⟩
      · subst hw
        split at k <;> cases k
    · rw [B.off i hl] at e
      obtain ⟨a, f1, f2⟩ := S.own i ow d e k
      have rr := offO hl e k f1 f2
      obtain ⟨o, ho, _⟩ := f2.t.at
      rw [ho] at rr
      exact ⟨a, f1, ⟨S'.gr a o rr, f2.r, f2.t.keep s (by rw [ho]; exact S'.rH a o rr)⟩, .inr ⟨hl, by rw [e]; exact k, by rw [rr]; rfl⟩⟩
  have owned : ∀ {i : Nat}, isOwnC en2[i]? = true → ∀ {a : Addr}, σ[i]? = some (some (.ref a)) → (Lent avs args i ∧ restR R H σ en avs args a = none ∧ ∃ kk : Nat, isOwnC outs[kk]? = true ∧ (vs.map some)[kk]? = some (some (.ref a)) ∧ ∃ d, args[kk]? = some (true, d) ∧ avs[kk]? = some (.p i)) ∨ (¬ Lent avs args i ∧ isOwnC en[i]? = true ∧ (restR R H σ en avs args a).isSome = true) := fun {i} h {a} e => by
    obtain ⟨ow, d, f1, f2⟩ := isOwnC_get h
    obtain ⟨a', g1, _, g3⟩ := ol i ow d f1 f2
    rw [e] at g1; cases g1
    exact g3
  refine ⟨⟨S'.gH, same_R.trans S'.rH, fun a o e => S'.gr a o (same_R a o e), by rw [S.len, B.len], sl, fun i ow d e k => ?_, fun i j a e1 e2 q1 q2 => ?_, ⟨S'.tb.t, S'.tb.g, S.tb.r⟩⟩, fun i => ⟨?_, fun _ => rfl⟩, fun v d own q => ?_⟩
  · obtain ⟨a, h1, h2, _⟩ := ol i ow d e k
    exact ⟨a, h1, h2⟩
  · rcases owned e1 q1 with ⟨l1, n1, kk, o1, v1, d1, a1, p1⟩ | ⟨l1, o1, n1⟩
    · rcases owned e2 q2 with ⟨l2, n2, kk2, o2, v2, d2, a2, p2⟩ | ⟨l2, o2, n2⟩
      · have := S'.apart kk kk2 a o1 o2 v1 v2
        subst this
        rw [p1] at p2; cases p2; rfl
      · rw [n1] at n2; cases n2
    · rcases owned e2 q2 with ⟨l2, n2, kk2, o2, v2, d2, a2, p2⟩ | ⟨l2, o2, n2⟩
      · rw [n2] at n1; cases n1
      · exact S.apart i j a o1 o2 q1 q2
  · by_cases hl : Lent avs args i
    · obtain ⟨kk, v, ow0, ow', ow2, d0, d', e0, k0, o1, e2, hw, hv, hs⟩ := on hl
      rw [e0, e2]
      rcases hw with ⟨rfl, rfl⟩ | ⟨rfl, hw⟩
      · rfl
      · subst hw
        cases ow0 <;> first | rfl | cases k0
    · rw [B.off i hl]
  · cases own with
    | false => exact q
    | true =>
      obtain ⟨a, rfl, o, f⟩ := q
      refine ⟨a, rfl, ⟨o.g, same_R.free o.r, o.t⟩, fun i hi z => ?_⟩
      rcases owned hi z with ⟨_, _, kk, o1, v1, _⟩ | ⟨_, _, n1⟩
      · exact f kk o1 v1
      · rw [o.r] at n1; cases n1
/-- f(e, ..), a def of the program -/
theorem s_call {f k : Nat} {fa : Addr} {fd : FuncData} {ps : List Str} {x : Str} {p pos : Pos} {e : Expr} {es : List Expr} {as' : Es} (F : FnOk X.prog X.w X.K X.mg X.base (L2.CX X.prog X.w) k fa fd ps (spF Y (U.C f))) (hr : Room k X.A) (hm : X.mg x = some (.ref fa)) (hk : PySem.W.keepIn X.K (.ref fa) = true)
    (hb : Binds X.K fd ps []) (tk : Takes X W) (ha : PA X (e :: es) (rdA Y W U as')) (hg : Gl X x := by rfl) (hdb : (x == ("__debug__" : Str)) = false := by decide) (he : starEach (e :: es) X.env = (false, eval e X.env) :: starEach es X.env := by rfl) (hpl : (backTo pos (starEach es X.env)).any (·.1) = false := by rfl) :
    PE X (.Call (.Name x p) (e :: es) [] pos) (rdE Y W U (.call f as')) := by
  refine (pe_callS F hr hg hm hk hb (fun σ => passAt tk σ) ha hdb he hpl).imp fun σ H Q ⟨G, R, en, S, p⟩ => ⟨G, R, en, S, ?_⟩
  rw [evE] at p
  refine Pst.bind p fun avs en1 vs H1 G1 _ s1 k1 S1 o1 p1 => ?_
  unfold doCall at p1
  split at p1
  · exact p1.elim
  · rename_i args ep
    obtain ⟨P, _⟩ := pass_ok S1 ep o1
    refine ⟨G1, _, args, pass_sep S1 P, ?_⟩
    split at p1
    · exact p1.elim
    · rename_i d own outs ec
      rw [ec]
      split at p1
      · rename_i en2 eb
        have B := back_ok eb P.nd
        intro v H2 G2 s2 S2 o2
        obtain ⟨h1, h2, h3⟩ := back_sep S1 P s2 S2 B
        exact p1 v H2 G2 s2 h2 h1 (h3 v d own o2)
      · exact p1.elim
    · rename_i x outs ec
      rw [ec]
      split at p1
      · rename_i en2 eb
        have B := back_ok eb P.nd
        intro cls dd H2 G2 s2 S2 o2
        obtain ⟨h1, h2, h3⟩ := back_sep S1 P s2 S2 B
        exact p1 cls dd H2 G2 s2 h2 h1 o2
      · exact p1.elim
end

/-! ### statements -/
def FlEnd (Y : Wd) (G R H : Hp) (σ : L2.St) (en : En) (fl : Fl) (D1 : Ends) : Prop := match fl with
  | .nx => D1.nx σ H | .br => D1.bk σ H | .ct => D1.ct σ H | .rt d own => ∀ v, Vok Y G R H σ en v d own → D1.rt v H
/-- what is wanted behind a statement's evaluation -/
def PstS (Y : Wd) (W : WX) (G R : Hp) (σ : L2.St) (en : En) (r : Rs Fl) (D1 : Ends) : Prop := match r with
  | .ok fl en' => ∀ σ' H' G', Same G G' → Keep σ en σ' en' → Sep Y G' R H' σ' en' → FlEnd Y G' R H' σ' en' fl D1
  | .er x en' => ∀ cls dd σ' H' G', Same G G' → Keep σ en σ' en' → Sep Y G' R H' σ' en' → ExOk Y G' x cls dd → W cls dd σ' H'
  | .bad => False
def rdSt (Y : Wd) (W : WX) (ev : En → Rs Fl) : TS := fun D1 σ H => ∃ G R en, Sep Y G R H σ en ∧ PstS Y W G R σ en (ev en) D1
abbrev rdS (Y : Wd) (W : WX) (U : Ev) (s : S) : TS := rdSt Y W (evS U.w U.C U.md s)
abbrev rdSs (Y : Wd) (W : WX) (U : Ev) (s : Ss) : TS := rdSt Y W (evSs U.w U.C U.md s)
section
variable {X : Cx} {Y : Wd} {W : WX} {U : Ev} {α β : Type} {ok1 : Hp → Hp → Hp → L2.St → En → α → β → Prop} {G R : Hp} {σ : L2.St} {en : En} {D1 : Ends}
theorem PstS.weak {r : Rs Fl} {G' : Hp} {σ1 : L2.St} {en1 : En} (h : PstS Y W G R σ en r D1) (s : Same G G') (k : Keep σ en σ1 en1) : PstS Y W G' R σ1 en1 r D1 := by
  cases r with
  | ok a en' => exact fun σ' H' G'' s' k' => h σ' H' G'' (s.trans s') (k.trans k')
  | er x en' => exact fun c d σ' H' G'' s' k' => h c d σ' H' G'' (s.trans s') (k.trans k')
  | bad => exact h
/-- an expression, then the rest -/
theorem PstS.bindE {r : Rs α} {f : α → En → Rs Fl} {Q1 : β → Hp → Prop} (h : PstS Y W G R σ en (r.bind f) D1)
    (k : ∀ a en' b H' G', r = .ok a en' → Same G G' → Keep σ en σ en' → Sep Y G' R H' σ en' → ok1 G' R H' σ en' a b → PstS Y W G' R σ en' (f a en') D1 → Q1 b H') : Pst Y W ok1 G R σ en r Q1 := by
  cases r with
  | ok a en' =>
    intro b H' G' s kp S o
    exact k a en' b H' G' rfl s kp S o (PstS.weak (r := f a en') h s kp)
  | er x en' => exact fun c d H' G' s kp => h c d σ H' G' s kp
  | bad => exact h
/-- a statement, then the rest -/
theorem PstS.bindS {r : Rs Fl} {f : Fl → En → Rs Fl} {D2 : Ends} (h : PstS Y W G R σ en (r.bind f) D1)
    (nx : ∀ en' σ' H' G', Same G G' → Keep σ en σ' en' → Sep Y G' R H' σ' en' → PstS Y W G' R σ' en' (f .nx en') D1 → D2.nx σ' H')
    (br : ∀ en' σ' H' G', Same G G' → Keep σ en σ' en' → Sep Y G' R H' σ' en' → PstS Y W G' R σ' en' (f .br en') D1 → D2.bk σ' H')
    (ct : ∀ en' σ' H' G', Same G G' → Keep σ en σ' en' → Sep Y G' R H' σ' en' → PstS Y W G' R σ' en' (f .ct en') D1 → D2.ct σ' H')
    (rt : ∀ d own en' σ' H' G' v, Same G G' → Keep σ en σ' en' → Sep Y G' R H' σ' en' → Vok Y G' R H' σ' en' v d own → PstS Y W G' R σ' en' (f (.rt d own) en') D1 → D2.rt v H') : PstS Y W G R σ en r D2 := by
  cases r with
  | ok fl en' =>
    intro σ' H' G' s kp S
    have w := PstS.weak (r := f fl en') h s kp
    cases fl with
    | nx => exact nx en' σ' H' G' s kp S w
    | br => exact br en' σ' H' G' s kp S w
    | ct => exact ct en' σ' H' G' s kp S w
    | rt d own => exact fun v o => rt d own en' σ' H' G' v s kp S o w
  | er x en' => exact h
  | bad => exact h
theorem PstS.now {fl : Fl} {H : Hp} (S : Sep Y G R H σ en) (h : PstS Y W G R σ en (.ok fl en) D1) : FlEnd Y G R H σ en fl D1 := h σ H G (Same.refl _) (Keep.refl _ _) S

theorem ss_nil : PSs X [] (rdSs Y W U .nil) := pss_nil.imp fun D σ H ⟨G, R, en, S, p⟩ => by
  rw [evSs] at p
  exact PstS.now S p
theorem evSs_cons (U : Ev) (s : S) (ss : Ss) (en : En) : evSs U.w U.C U.md (.cons s ss) en = (evS U.w U.C U.md s en).bind fun fl en => match fl with
    | .nx => evSs U.w U.C U.md ss en | .br => .ok .br en | .ct => .ok .ct en | .rt d o => .ok (.rt d o) en := by
  rw [evSs] <;> (generalize evS U.w U.C U.md s en = r; rcases r with ⟨fl, en⟩ | ⟨x, en⟩ | _ <;> first | rfl | (cases fl <;> rfl))
theorem ss_cons {st : Stmt} {rest : List Stmt} {s : S} {ss : Ss} (h1 : PS X st (rdS Y W U s)) (h2 : PSs X rest (rdSs Y W U ss)) : PSs X (st :: rest) (rdSs Y W U (.cons s ss)) := by
  refine (pss_cons h1 h2).imp fun D σ H ⟨G, R, en, S, p⟩ => ⟨G, R, en, S, ?_⟩
  rw [evSs_cons] at p
  refine PstS.bindS p (fun en' σ' H' G' s k S' p' => ⟨G', R, en', S', p'⟩) (fun en' σ' H' G' s k S' p' => PstS.now S' p') (fun en' σ' H' G' s k S' p' => PstS.now S' p') fun d own en' σ' H' G' v s k S' o p' => PstS.now S' p' v o
theorem st_pass {pos : Pos} : PS X (.Pass pos) (rdS Y W U .pass) := ps_pass.imp fun D σ H ⟨G, R, en, S, p⟩ => by
  rw [evS] at p; exact PstS.now S p
theorem st_brk {pos : Pos} : PS X (.Break pos) (rdS Y W U .brk) := ps_break.imp fun D σ H ⟨G, R, en, S, p⟩ => by
  rw [evS] at p; exact PstS.now S p
theorem st_cnt {pos : Pos} : PS X (.Continue pos) (rdS Y W U .cnt) := ps_continue.imp fun D σ H ⟨G, R, en, S, p⟩ => by
  rw [evS] at p; exact PstS.now S p
theorem st_ex {e : Expr} {m : E} {pos : Pos} (h : PE X e (rdE Y W U m)) (hs : swapsWith e none pos.line X.env = pure false := by rfl) : PS X (.Expr e pos) (rdS Y W U (.ex m)) := by
  refine (ps_expr h hs).imp fun D σ H ⟨G, R, en, S, p⟩ => ⟨G, R, en, S, ?_⟩
  rw [evS] at p
  exact PstS.bindE p fun q en1 v H1 G1 _ s1 k1 S1 o1 p1 => PstS.now S1 p1
theorem st_ret {e : Expr} {m : E} {pos : Pos} (h : PE X e (rdE Y W U m)) : PS X (.Return (some e) pos) (rdS Y W U (.ret m)) := by
  refine (ps_ret h).imp fun D σ H ⟨G, R, en, S, p⟩ => ⟨G, R, en, S, ?_⟩
  rw [evS] at p
  exact PstS.bindE p fun q en1 v H1 G1 _ s1 k1 S1 o1 p1 => PstS.now S1 p1 v o1
theorem st_retN {pos : Pos} : PS X (.Return none pos) (rdS Y W U (.ret (.cst .non))) := ps_retN.imp fun D σ H ⟨G, R, en, S, p⟩ => by
  rw [evS, evE] at p
  exact PstS.now S p .non .non
theorem st_if {c : Expr} {a b : List Stmt} {c' : E} {a' b' : Ss} {pos : Pos} (hc : PT X c (rdT Y W U c')) (ha : PSs X a (rdSs Y W U a')) (hb : PSs X b (rdSs Y W U b')) : PS X (.If c a b pos) (rdS Y W U (.ife c' a' b')) := by
  refine (ps_if hc ha hb).imp fun D σ H ⟨G, R, en, S, p⟩ => ⟨G, R, en, S, ?_⟩
  rw [evS] at p
  refine PstS.bindE p fun k en1 v H1 G1 _ s1 k1 S1 o1 p1 => ?_
  cases (show v = k from o1)
  cases k with
  | true => exact ⟨G1, R, en1, S1, p1⟩
  | false => exact ⟨G1, R, en1, S1, p1⟩
/-- target = value -/
theorem asg_red {e : TE} {g : TG} {tg : Tg} {m : E} {D1 : Ends} {σ : L2.St} {H : Hp} (h : rdS Y W U (.asg tg m) D1 σ H) : tAsg (rdE Y W U m) (rdG Y tg) D1 σ H := by
  obtain ⟨G, R, en, S, p⟩ := h
  refine ⟨G, R, en, S, ?_⟩
  rw [evS] at p
  refine PstS.bindE p fun q en1 v H1 G1 _ s1 k1 S1 o1 p1 => ⟨G1, R, en1, q.1, q.2, S1, o1, ?_⟩
  cases e2 : stTg tg q.1 q.2 en1 with
  | none => rw [e2] at p1; exact p1.elim
  | some en2 =>
    rw [e2] at p1
    intro σ' k2 S2 _
    have p1 : PstS Y W G1 R σ en1 (.ok .nx en2) D1 := p1
    exact p1 σ' H1 G1 (Same.refl _) k2 S2
theorem st_asg {tge e : Expr} {tg : Tg} {m : E} {pos : Pos} (he : PE X e (rdE Y W U m)) (hg : PG X tge (rdG Y tg)) (hs : swapsWithSole [tge] e pos.line X.env = pure false := by rfl) (hw : swappedStores [tge] e X.env = pure none := by rfl) (h1 : (assignEach [tge] X.env).map (·.2) = [assign tge X.env] := by rfl) :
    PS X (.Assign [tge] e pos) (rdS Y W U (.asg tg m)) := (ps_asg he hg hs hw h1).imp fun D σ H h => asg_red (e := rdE Y W U m) (g := rdG Y tg) h
/-- a loop's reading -/
theorem st_while {c : Expr} {body : List Stmt} {c' : E} {b' : Ss} {pos : Pos} (hp : PassesOwn (model X.prog X.w) X.A X.env X.xe) (hc : PT X c (rdT Y W U c')) (hb : PSs X body (rdSs Y W U b')) : PS X (.While c body [] pos) (rdS Y W U (.whl c' b')) := by
  refine (ps_while hp hc hb).imp fun D σ H ⟨G, R, en, S, p⟩ => ?_
  rw [evS] at p
  refine ⟨fun m σ H => ∃ G en, Sep Y G R H σ en ∧ PstS Y W G R σ en (loopW (fun en => toB (evE U.C U.md c' en)) (fun en => evSs U.w U.C U.md b' en) m en) D, ⟨_, G, en, S, p⟩, ?_⟩
  rintro m σ H ⟨G, en, S, p⟩
  cases m with
  | zero => exact p.elim
  | succ m =>
    refine ⟨G, R, en, S, ?_⟩
    simp only [loopW] at p
    refine PstS.bindE p fun k en1 v H1 G1 _ s1 k1 S1 o1 p1 => ?_
    cases (show v = k from o1)
    cases k with
    | false => exact PstS.now S1 p1
    | true =>
      rw [if_pos rfl] at p1 ⊢
      refine ⟨_, fun σ' H' n => ⟨m, Nat.lt_succ_self _, n⟩, G1, R, en1, S1, ?_⟩
      exact PstS.bindS p1 (fun en' σ' H' G' s k S' p' => ⟨G', en', S', p'⟩) (fun en' σ' H' G' s k S' p' => PstS.now S' p') (fun en' σ' H' G' s k S' p' => ⟨G', en', S', p'⟩) fun d own en' σ' H' G' v s k S' o p' => PstS.now S' p' v o
/-- a loop's reading behind what is walked -/
theorem for_coreR {tg : Tg} {b' : Ss} {σ : L2.St} {D : Ends} {G1 R H1 : Hp} {en1 : En} {items : List L3.D} {J : It} (gv : GivesR Y J items G1 R) (S1 : Sep Y G1 R H1 σ en1)
    (p1 : PstS Y W G1 R σ en1 (loopF (fun d en => (stR (stTg tg d false en)).bind fun _ en => evSs U.w U.C U.md b' en) items en1) D) :
    tFor (fun _ H RR => RR J H) (rdG Y tg) (rdSs Y W U b') D σ H1 := by
  refine ⟨fun i m σ H => m = items.length - i ∧ i ≤ items.length ∧ ∃ G2 en2, Same G1 G2 ∧ Sep Y G2 R H σ en2 ∧ PstS Y W G2 R σ en2 (loopF (fun d en => (stR (stTg tg d false en)).bind fun _ en => evSs U.w U.C U.md b' en) (items.drop i) en2) D,
    ⟨items.length, rfl, Nat.zero_le _, G1, en1, Same.refl _, S1, p1⟩, ?_⟩
  rintro i m σ H ⟨rfl, hi, G2, en2, s2, S2, p2⟩
  obtain ⟨g1, g2⟩ := gv i G2 _ H _ _ s2 (Same.refl _) S2
  by_cases hlt : i < items.length
  · right
    have ei : items[i]? = some items[i] := List.getElem?_eq_getElem hlt
    obtain ⟨go, yl⟩ := g1 _ ei
    refine ⟨go, fun σ' H' => ∃ G2 en2, Same G1 G2 ∧ Sep Y G2 R H' σ' en2 ∧ PstS Y W G2 R σ' en2 (loopF (fun d en => (stR (stTg tg d false en)).bind fun _ en => evSs U.w U.C U.md b' en) (items.drop (i + 1)) en2) D,
      fun σ' H' n => ⟨items.length - (i + 1), by omega, rfl, hlt, n⟩, fun x H' y => ?_⟩
    obtain ⟨G3, s3, S3, r3⟩ := yl x H' y
    rw [List.drop_eq_getElem_cons hlt] at p2
    simp only [loopF] at p2
    refine ⟨G3, _, en2, items[i], false, S3, r3, ?_⟩
    cases est : stTg tg items[i] false en2 with
    | none => rw [est] at p2; exact p2.elim
    | some en3 =>
      rw [est] at p2
      intro σ3 k3 S4 off3
      have p3 : PstS Y W G3 R σ3 en3 ((evSs U.w U.C U.md b' en3).bind fun fl en => match fl with
          | .nx => loopF (fun d en => (stR (stTg tg d false en)).bind fun _ en => evSs U.w U.C U.md b' en) (items.drop (i + 1)) en
          | .ct => loopF (fun d en => (stR (stTg tg d false en)).bind fun _ en => evSs U.w U.C U.md b' en) (items.drop (i + 1)) en
          | .br => .ok .nx en | .rt d o => .ok (.rt d o) en) D := PstS.weak (r := (evSs U.w U.C U.md b' en3).bind _) p2 s3 k3
      refine ⟨G3, R, en3, S4, ?_⟩
      exact PstS.bindS p3 (fun en' σ' H' G' s k S' p' => ⟨G', en', (s2.trans s3).trans s, S', p'⟩) (fun en' σ' H' G' s k S' p' => PstS.now S' p') (fun en' σ' H' G' s k S' p' => ⟨G', en', (s2.trans s3).trans s, S', p'⟩) fun d own en' σ' H' G' v s k S' o p' => PstS.now S' p' v o
  · left
    have e : i = items.length := by omega
    subst e
    refine ⟨g2 rfl, ?_⟩
    rw [List.drop_length] at p2
    exact PstS.now S2 p2
theorem st_for {tge iter : Expr} {body : List Stmt} {tg : Tg} {k : ItK} {as' : Es} {b' : Ss} {pos : Pos} (hp : PassesOwn (model X.prog X.w) X.A X.env X.xe) (hc : X.calm = true) (hi : PI X tge iter (rdI Y W U k as')) (hg : PG X tge (rdG Y tg)) (hb : PSs X body (rdSs Y W U b'))
    (hs : ∀ x, foldedSetIterable iter X.env x = pure x := by intro _; rfl) : PS X (.For tge iter body [] pos) (rdS Y W U (.fr tg k as' b')) := by
  refine (ps_for hp hc hi hg hb hs).imp fun D σ H ⟨G, R, en, S, p⟩ => ⟨G, R, en, S, ?_⟩
  rw [evS] at p
  have p : PstS Y W G R σ en ((evI U.C U.md k as' en).bind fun items en => loopF (fun d en => (stR (stTg tg d false en)).bind fun _ en => evSs U.w U.C U.md b' en) items en) D := by
    unfold evI; rw [Rs.bind_assoc]; exact p
  refine PstS.bindE p fun items en1 J H1 G1 _ s1 k1 S1 gv p1 => ?_
  exact for_coreR gv.r S1 p1
/-! ### a list of ours is walked -/
theorem Sep.freeze {G R H : Hp} {σ : L2.St} {en : En} {i : Nat} {ow : Ow} {xs : List L3.D} (S : Sep Y G R H σ en) (hi : en[i]? = some (some (ow, .lst xs))) (ho : ow.isOwn = true) (hth : ∀ a, Y.th a) :
    ∃ a vs, σ[i]? = some (some (.ref a)) ∧ H a = some (.lst vs) ∧ RepL Y G vs xs ∧ G a = none ∧ R a = none ∧ Sep Y G (upd R a (.lst vs)) H σ (en.set i frz) := by
  obtain ⟨a, e1, w⟩ := S.own i ow _ hi ho
  have hl := lt_of_get hi
  cases ht : w.t with
  | lst h r =>
    rename_i vs
    refine ⟨a, vs, e1, h, r, w.g, w.r, ?_⟩
    have S2 : Sep Y G R H σ (en.set i frz) := by
      refine ⟨S.gH, S.rH, S.gr, by rw [List.length_set]; exact S.len, fun j ow' d e k => ?_, fun j ow' d e k => ?_, fun j l b e2 e3 q1 q2 => ?_, S.tb⟩
      · by_cases hj : i = j
        · subst hj
          rw [get_set_same hl] at e
          cases e
          exact ⟨V.ref a, e1, .thk (hth a)⟩
        · rw [get_set_ne hj] at e
          exact S.sh j ow' d e k
      · by_cases hj : i = j
        · subst hj
          rw [get_set_same hl] at e
          cases e
          cases k
        · rw [get_set_ne hj] at e
          exact S.own j ow' d e k
      · have n1 : i ≠ j := fun z => by subst z; rw [get_set_same hl] at e2; cases e2
        have n2 : i ≠ l := fun z => by subst z; rw [get_set_same hl] at e3; cases e3
        rw [get_set_ne n1] at e2
        rw [get_set_ne n2] at e3
        exact S.apart j l b e2 e3 q1 q2
    refine S2.reserve h w.g fun j e z => ?_
    have n1 : i ≠ j := fun z => by subst z; rw [get_set_same hl] at e; cases e
    rw [get_set_ne n1] at e
    exact n1 (S.apart i j a (by rw [hi]; exact ho) e e1 z)
theorem Sep.thaw {G R H : Hp} {σ : L2.St} {en : En} {i : Nat} {ow : Ow} {a : Addr} {vs : List V} {xs : List L3.D} (S : Sep Y G (upd R a (.lst vs)) H σ en) (hi : en[i]? = some frz) (ho : ow.isOwn = true) (e1 : σ[i]? = some (some (.ref a))) (ha : R a = none) (r : RepL Y G vs xs) :
    Sep Y G R H σ (en.set i (some (ow, .lst xs))) := by
  have hl := lt_of_get hi
  have hg : G a = none := S.gr a _ upd_same
  refine ⟨S.gH, fun b o e => S.rH b o (by rw [upd_ne (ne_of_none e ha)]; exact e), fun b o e => S.gr b o (by rw [upd_ne (ne_of_none e ha)]; exact e), by rw [List.length_set]; exact S.len, fun j ow' d e k => ?_, fun j ow' d e k => ?_, fun j l b e2 e3 q1 q2 => ?_, ⟨S.tb.t, S.tb.g, fun b ps e => S.tb.r b ps (by rw [upd_ne (ne_of_none e ha)]; exact e)⟩⟩
  · by_cases hj : i = j
    · subst hj
      rw [get_set_same hl] at e
      cases e
      rw [ho] at k; cases k
    · rw [get_set_ne hj] at e
      exact S.sh j ow' d e k
  · by_cases hj : i = j
    · subst hj
      rw [get_set_same hl] at e
      cases e
      exact ⟨a, e1, hg, ha, .lst (S.rH a _ upd_same) r⟩
    · rw [get_set_ne hj] at e
      obtain ⟨b, f1, f2⟩ := S.own j ow' d e k
      have hb : b ≠ a := fun z => by have := f2.r; rw [z, upd_same] at this; cases this
      exact ⟨b, f1, f2.g, by have := f2.r; rw [upd_ne hb] at this; exact this, f2.t⟩
  · have away : ∀ (j : Nat) (b : Addr), isOwnC en[j]? = true → σ[j]? = some (some (V.ref b)) → b ≠ a := fun j b e q z => by
      obtain ⟨ow', d, f1, f2⟩ := isOwnC_get e
      obtain ⟨b', f3, f4⟩ := S.own j ow' d f1 f2
      rw [f3] at q; cases q
      have := f4.r
      rw [z, upd_same] at this; cases this
    by_cases hj : i = j
    · by_cases hl2 : i = l
      · rw [← hj, ← hl2]
      · subst hj
        rw [get_set_ne hl2] at e3
        rw [e1] at q1; cases q1
        exact absurd rfl (away l a e3 q2)
    · rw [get_set_ne hj] at e2
      by_cases hl2 : i = l
      · subst hl2
        rw [e1] at q2; cases q2
        exact absurd rfl (away j a e2 q1)
      · rw [get_set_ne hl2] at e3
        exact S.apart j l b e2 e3 q1 q2
theorem Keep.thaw {σ σ' : L2.St} {en en' : En} {i : Nat} {ow : Ow} {d d' : L3.D} (hi : en[i]? = some (some (ow, d))) (hi' : en'[i]? = some frz) (k : Keep σ (en.set i frz) σ' en') : Keep σ en σ' (en'.set i (some (ow, d'))) ∧ σ'[i]? = σ[i]? := by
  have hl := lt_of_get hi
  have hl' := lt_of_get hi'
  have e0 : σ'[i]? = σ[i]? := (k i).2 (by rw [get_set_same hl]; rfl)
  refine ⟨fun j => ?_, e0⟩
  by_cases hj : i = j
  · subst hj
    rw [get_set_same hl', hi]
    exact ⟨rfl, fun _ => e0⟩
  · have := k j
    rw [get_set_ne hj] at this
    rw [get_set_ne hj]
    exact this
theorem Vok.thaw {G R H : Hp} {σ : L2.St} {en : En} {i : Nat} {ow : Ow} {a : Addr} {vs : List V} {d : L3.D} {v : V} {dv : L3.D} {own : Bool} (e1 : σ[i]? = some (some (.ref a))) (hi : en[i]? = some frz) (ha : R a = none) (o : Vok Y G (upd R a (.lst vs)) H σ en v dv own) : Vok Y G R H σ (en.set i (some (ow, d))) v dv own := by
  cases own with
  | false => exact o
  | true =>
    obtain ⟨b, rfl, w, f⟩ := o
    have hb : b ≠ a := fun z => by have := w.r; rw [z, upd_same] at this; cases this
    refine ⟨b, rfl, ⟨w.g, by have := w.r; rw [upd_ne hb] at this; exact this, w.t⟩, fun j e z => ?_⟩
    by_cases hj : i = j
    · subst hj
      rw [e1] at z; cases z
      exact hb rfl
    · rw [get_set_ne hj] at e
      exact f j e z
theorem unfz_ok {α : Type} {i : Nat} {c : Ow × L3.D} {x : α} {en : En} (h : en[i]? = some frz) : unfz i c (.ok x en) = .ok x (en.set i (some c)) := by
  show (match en[i]? with | some (some (.brs, .thk true .non)) => Rs.ok x (en.set i (some c)) | _ => .bad) = _
  rw [h]
theorem unfz_er {α : Type} {i : Nat} {c : Ow × L3.D} {x : Ex} {en : En} (h : en[i]? = some frz) : unfz (α := α) i c (.er x en) = .er x (en.set i (some c)) := by
  show (match en[i]? with | some (some (.brs, .thk true .non)) => Rs.er x (en.set i (some c)) | _ => .bad) = _
  rw [h]
theorem unfz_okN {α : Type} {i : Nat} {c : Ow × L3.D} {x : α} {en : En} : en[i]? = some frz ∨ unfz i c (.ok x en) = .bad := by
  show _ ∨ (match en[i]? with | some (some (.brs, .thk true .non)) => Rs.ok x (en.set i (some c)) | _ => .bad) = _
  split
  · rename_i h; exact .inl h
  · exact .inr rfl
theorem unfz_erN {α : Type} {i : Nat} {c : Ow × L3.D} {x : Ex} {en : En} : en[i]? = some frz ∨ unfz (α := α) i c (.er x en) = .bad := by
  show _ ∨ (match en[i]? with | some (some (.brs, .thk true .non)) => Rs.er x (en.set i (some c)) | _ => .bad) = _
  split
  · rename_i h; exact .inl h
  · exact .inr rfl
theorem PstS.freeze {G R : Hp} {σ : L2.St} {en : En} {i : Nat} {ow : Ow} {a : Addr} {vs : List V} {xs : List L3.D} {r : Rs Fl} {D : Ends} (hi : en[i]? = some (some (ow, .lst xs))) (ho : ow.isOwn = true) (e1 : σ[i]? = some (some (.ref a))) (ha : R a = none) (rp : RepL Y G vs xs)
    (p : PstS Y W G R σ en (unfz i (ow, .lst xs) r) D) : PstS Y W G (upd R a (.lst vs)) σ (en.set i frz) r D := by
  cases r with
  | bad => exact p
  | ok fl en' =>
    rcases unfz_okN (i := i) (c := (ow, .lst xs)) (x := fl) (en := en') with h | h
    · rw [unfz_ok h] at p
      intro σ' H' G' s k S
      obtain ⟨k', e0⟩ := Keep.thaw (d' := .lst xs) hi h k
      have e1' : σ'[i]? = some (some (.ref a)) := e0.trans e1
      have q := p σ' H' G' s k' (S.thaw h ho e1' ha (rp.mono s))
      cases fl with
      | rt d own => exact fun v o => q v (Vok.thaw e1' h ha o)
      | nx => exact q
      | br => exact q
      | ct => exact q
    · rw [h] at p; exact p.elim
  | er x en' =>
    rcases unfz_erN (α := Fl) (i := i) (c := (ow, .lst xs)) (x := x) (en := en') with h | h
    · rw [unfz_er h] at p
      intro cls dd σ' H' G' s k S o
      obtain ⟨k', e0⟩ := Keep.thaw (d' := .lst xs) hi h k
      exact p cls dd σ' H' G' s k' (S.thaw h ho (e0.trans e1) ha (rp.mono s)) o
    · rw [h] at p; exact p.elim
/-- what a name walks -/
def wiP (X : Cx) (tl : TE) : TI := fun σ H RR => tl σ H fun x H1 => ∃ q, x = .ref q ∧ ((∃ xs, SqL X.K H1 q xs ∧ RR (Itl X.K q) H1) ∨ (∃ xs, SqT X.K H1 q xs ∧ RR (Itt X.K q) H1))
/-- shared things that are walked -/
theorem gives_sh {G : Hp} {v : V} {d : L3.D} {xs : List L3.D} (hK : X.K = Y.K) {H R : Hp} {σ : L2.St} {en : En} (S : Sep Y G R H σ en) (r : Rep Y G v d) (e : seqD d = some xs) : ∃ q, v = .ref q ∧ ((∃ ys, SqL X.K H q ys ∧ Gives Y (Itl X.K q) xs G) ∨ (∃ ys, SqT X.K H q ys ∧ Gives Y (Itt X.K q) xs G)) := by
  cases d with
  | tup ds =>
    cases e
    cases r with | tup h1 h2 =>
      refine ⟨_, rfl, .inr ⟨_, by rw [hK]; exact Same.seqT S.gH h1, ?_⟩⟩
      rw [hK]; exact gives_tup h1 h2
  | lst ds =>
    cases e
    cases r with | lst h1 h2 =>
      refine ⟨_, rfl, .inl ⟨_, .inl (.inl (S.gH _ _ h1)), ?_⟩⟩
      rw [hK]; exact gives_list (.inl (.inl h1)) h2
  | fls ds =>
    cases e
    cases r with | fls h1 h2 =>
      refine ⟨_, rfl, .inl ⟨_, by rw [hK]; exact S.gH.seq h1, ?_⟩⟩
      rw [hK]; exact gives_list h1 h2
  | _ => cases e
theorem st_frp {tge : Expr} {iter : Expr} {i : Nat} {body : List Stmt} {tg : Tg} {b' : Ss} {pos : Pos} (hp : PassesOwn (model X.prog X.w) X.A X.env X.xe) (hc : X.calm = true) (hK : X.K = Y.K) (hth : ∀ a, Y.th a) (hn : PE X iter (rdX Y W U (.pk i))) (hg : PG X tge (rdG Y tg)) (hb : PSs X body (rdSs Y W U b'))
    (hs : ∀ x, foldedSetIterable iter X.env x = pure x := by intro _; rfl) : PS X (.For tge iter body [] pos) (rdS Y W U (.frp tg i b')) := by
  refine (ps_for hp hc (pi_any hn) hg hb hs).imp fun D σ H ⟨G, R, en, S, p⟩ => ⟨G, R, en, S, ?_⟩
  rw [evS] at p
  cases hw : walkP i en with
  | none => rw [hw] at p; exact p.elim
  | some t =>
    obtain ⟨xs, k, en1⟩ := t
    rw [hw] at p
    have p : PstS Y W G R σ en (unfzO i k (loopF (fun d en => (stR (stTg tg d false en)).bind fun _ en => evSs U.w U.C U.md b' en) xs en1)) D := p
    unfold walkP at hw
    cases hi : en[i]? with
    | none => rw [hi] at hw; cases hw
    | some c =>
      rw [hi] at hw
      cases c with
      | none => cases hw
      | some c =>
        obtain ⟨ow, d⟩ := c
        show Pst Y W (okA Y) G R σ en (match en[i]? with | some (some _) => .ok (.p i) en | _ => .bad) _
        rw [hi]
        intro v H1 G1 s1 k1 S1 o1
        have o1 : σ[i]? = some (some v) := o1
        have hw : walkD i ow d en = some (xs, k, en1) := hw
        unfold walkD at hw
        cases ho : ow.isOwn with
        | true =>
          rw [ho, if_pos rfl] at hw
          cases d with
          | lst ys =>
            cases hw
            obtain ⟨a, vs, e1, h1, rp, g0, r0, SF⟩ := S1.freeze hi ho hth
            rw [e1] at o1; cases o1
            refine ⟨a, rfl, .inl ⟨vs, .inl (.inl h1), ?_⟩⟩
            rw [hK]
            exact for_coreR (gives_listR upd_same rp) SF (PstS.freeze hi ho e1 r0 rp (PstS.weak (r := unfz i (ow, .lst xs) _) p s1 k1))
          | _ => cases hw
        | false =>
          rw [ho, if_neg (by decide)] at hw
          cases hq : seqD d with
          | none => rw [hq] at hw; cases hw
          | some ys =>
            rw [hq] at hw
            cases hw
            obtain ⟨u, e1, rp⟩ := S1.sh i ow d hi ho
            rw [e1] at o1; cases o1
            obtain ⟨q, rfl, hh⟩ := gives_sh hK S1 rp hq
            refine ⟨q, rfl, ?_⟩
            have p1 := PstS.weak (r := loopF (fun d en => (stR (stTg tg d false en)).bind fun _ en => evSs U.w U.C U.md b' en) xs en) p s1 k1
            rcases hh with ⟨ys, h1, gv⟩ | ⟨ys, h1, gv⟩
            · exact .inl ⟨ys, h1, for_coreR gv.r S1 p1⟩
            · exact .inr ⟨ys, h1, for_coreR gv.r S1 p1⟩
end
end L3

/-! L3J: several names at once; methods of lists; items set. -/
namespace L3
open PySem PySem.Spec PyProof.Rows L2
section
variable {X : Cx} {Y : Wd} {W : WX} {U : Ev}
/-! ### a, b = x, y -/
def VokL (Y : Wd) (G R H : Hp) (σ : L2.St) (en : En) : List V → List (D × Bool) → Prop
  | [], [] => True
  | v :: vs, (d, false) :: ps => Rep Y G v d ∧ VokL Y G R H σ en vs ps
  | v :: vs, (d, true) :: ps => (∃ a o, v = .ref a ∧ OwnAt Y G R H a d ∧ H a = some o ∧ Free σ en a ∧ VokL Y G (upd R a o) H σ en vs ps)
  | _, _ => False
def okP (Y : Wd) : Hp → Hp → Hp → L2.St → En → List (D × Bool) → List V → Prop := fun G R H σ en ps vs => VokL Y G R H σ en vs ps
abbrev rdP (Y : Wd) (W : WX) (U : Ev) (ms : Es) : TA := rd Y W (okP Y) (evP U.C U.md ms)
theorem VokL.after {G : Hp} : ∀ {vs : List V} {ps : List (D × Bool)} {R R' H : Hp} {σ σ' : L2.St} {en en' : En}, (∀ b, R' b = none → Free σ en b → R b = none ∧ Free σ' en' b) → VokL Y G R' H σ en vs ps → VokL Y G R H σ' en' vs ps
  | [], [], _, _, _, _, _, _, _, _, _ => trivial
  | v :: vs, (d, false) :: ps, _, _, _, _, _, _, _, h, q => ⟨q.1, VokL.after h q.2⟩
  | v :: vs, (d, true) :: ps, R, R', H, _, _, _, _, h, ⟨a, o, e, w, ho, f, q⟩ => ⟨a, o, e, ⟨w.g, (h a w.r f).1, w.t⟩, ho, (h a w.r f).2, VokL.after (fun b r f => by
      by_cases hb : b = a
      · subst hb; rw [upd_same] at r; cases r
      · rw [upd_ne hb] at r ⊢; exact h b r f) q⟩
  | [], _ :: _, _, _, _, _, _, _, _, _, q => q.elim
  | _ :: _, [], _, _, _, _, _, _, _, _, q => by cases q
theorem Pst.bindR {α β γ δ : Type} {ok1 : Hp → Hp → Hp → L2.St → En → α → β → Prop} {ok2 : Hp → Hp → Hp → L2.St → En → γ → δ → Prop} {G R R' : Hp} {σ : L2.St} {en : En} {r : Rs α} {f : α → En → Rs γ} {Q : δ → Hp → Prop} {Q1 : β → Hp → Prop}
    (sR : Same R R') (h : Pst Y W ok2 G R σ en (r.bind f) Q)
    (k : ∀ a en' b H' G', r = .ok a en' → Same G G' → Keep σ en σ en' → Sep Y G' R' H' σ en' → ok1 G' R' H' σ en' a b → Pst Y W ok2 G' R σ en' (f a en') Q → Q1 b H') : Pst Y W ok1 G R' σ en r Q1 := by
  cases r with
  | ok a en' =>
    intro b H' G' s kp S o
    exact k a en' b H' G' rfl s kp S o (Pst.weak (r := f a en') h s kp)
  | er x en' => exact fun c d H' G' s kp S => h c d H' G' s kp (S.lessR sR)
  | bad => exact h
theorem p_nil : PA X [] (rdP Y W U .nil) := pa_nil.imp fun σ H Q ⟨G, R, en, S, p⟩ => p [] H G (Same.refl _) (Keep.refl _ _) S trivial
theorem evP_cons (C : Nat → List (Bool × D) → CRes) (md : Nat → List Bool) (e : E) (es : Es) (en : En) : evP C md (.cons e es) en = (evE C md e en).bind fun p en => (evP C md es en).bind fun ps en => .ok (p :: ps) en := by
  rw [evP]
theorem p_cons {e : Expr} {es : List Expr} {m : E} {ms : Es} (h1 : PE X e (rdE Y W U m)) (h2 : PA X es (rdP Y W U ms)) (hs : starEach (e :: es) X.env = (false, eval e X.env) :: starEach es X.env := by rfl) : PA X (e :: es) (rdP Y W U (.cons m ms)) := by
  refine (pa_cons h1 h2 hs).imp fun σ H Q ⟨G, R, en, S, p⟩ => ⟨G, R, en, S, ?_⟩
  rw [evP_cons] at p
  refine Pst.bind p fun q en' v H' G' _ s k S' o p' => ?_
  obtain ⟨d, own⟩ := q
  cases own with
  | false =>
    refine rd.mk S' (Pst.bind p' fun ps en2 vs H2 G2 _ s2 k2 S2 o2 p2 => ?_)
    exact p2 (v :: vs) H2 G2 (Same.refl _) (Keep.refl _ _) S2 ⟨Rep.mono s2 o, o2⟩
  | true =>
    obtain ⟨a, rfl, w, f⟩ := o
    obtain ⟨u, hu, mu⟩ := w.t.at
    refine rd.mk (S'.reserve hu w.g f (notT_mut mu)) (Pst.bindR (same_new w.r) p' fun ps en2 vs H2 G2 _ s2 k2 S2 o2 p2 => ?_)
    have hH : H2 a = some u := S2.rH a u upd_same
    have gn : G2 a = none := S2.gr a u upd_same
    have fr : Free σ en2 a := fun i hi z => by
      obtain ⟨ow, d', e1, e2⟩ := isOwnC_get hi
      obtain ⟨b, e3, w2⟩ := S2.own i ow d' e1 e2
      rw [e3] at z; cases z
      have := w2.r
      rw [upd_same] at this; cases this
    exact p2 (.ref a :: vs) H2 G2 (Same.refl _) (Keep.refl _ _) (S2.lessR (same_new w.r)) ⟨a, u, rfl, ⟨gn, w.r, w.t.keep s2 (hH.trans hu.symm)⟩, hH, fr, o2⟩
theorem stVarsO_ok : ∀ {is : List Nat} {ps : List (D × Bool)} {vs : List V} {G R H : Hp} {σ : L2.St} {en en' : En}, Sep Y G R H σ en → VokL Y G R H σ en vs ps → stVarsO is ps en = some en' → Keep σ en (setAll σ is vs) en' ∧ Sep Y G R H (setAll σ is vs) en' ∧ is.length = vs.length
  | [], [], [], G, R, H, σ, en, en', S, r, e => by
    cases e
    exact ⟨Keep.refl _ _, S, rfl⟩
  | i :: is, (d, own) :: ps, v :: vs, G, R, H, σ, en, en', S, r, e => by
    simp only [stVarsO] at e
    split at e
    · rename_i en1 q
      have hv : Vok Y G R H σ en v d own := by
        cases own with
        | false => exact r.1
        | true =>
          obtain ⟨a, o, e, w, ho, f, _⟩ := r
          exact ⟨a, e, w, f⟩
      have S1 := S.st q hv
      have r2 : VokL Y G R H (σ.set i (some v)) en1 vs ps := by
        obtain ⟨il, _, e1⟩ := stVar_ok q
        have sl : i < σ.length := by rw [S.len]; exact il
        cases own with
        | false =>
          refine VokL.after (fun b r f => ⟨r, fun j hj z => ?_⟩) r.2
          subst e1
          by_cases hij : i = j
          · subst hij; rw [get_set_same il] at hj; cases hj
          · rw [get_set_ne hij] at hj
            rw [List.getElem?_set_ne hij] at z
            exact f j hj z
        | true =>
          obtain ⟨a, o, rfl, w, ho, f, r⟩ := r
          refine VokL.after (fun b rb fb => ?_) r
          have hba : b ≠ a := fun z => by subst z; rw [upd_same] at rb; cases rb
          rw [upd_ne hba] at rb
          refine ⟨rb, fun j hj z => ?_⟩
          subst e1
          by_cases hij : i = j
          · subst hij
            rw [List.getElem?_set_self sl] at z
            cases z
            exact hba rfl
          · rw [get_set_ne hij] at hj
            rw [List.getElem?_set_ne hij] at z
            exact fb j hj z
      obtain ⟨k, S2, l⟩ := stVarsO_ok S1 r2 e
      exact ⟨(Keep.st q).trans k, S2, by simp [l]⟩
    · cases e
  | [], _ :: _, _, _, _, _, _, _, _, _, _, e => by cases e
  | _ :: _, [], _, _, _, _, _, _, _, _, _, e => by cases e
  | [], [], _ :: _, _, _, _, _, _, _, _, r, _ => by cases r
  | _ :: _, (_, false) :: _, [], _, _, _, _, _, _, _, r, _ => by cases r
  | _ :: _, (_, true) :: _, [], _, _, _, _, _, _, _, r, _ => by cases r
theorem par_red {is : List Nat} {as' : Es} {D1 : Ends} {σ : L2.St} {H : Hp} (h : rdS Y W U (.par is as') D1 σ H) : rdP Y W U as' σ H fun vs H1 => vs.length = is.length ∧ D1.nx (setAll σ is vs) H1 := by
  obtain ⟨G, R, en, S, p⟩ := h
  refine ⟨G, R, en, S, ?_⟩
  rw [evS] at p
  refine PstS.bindE p fun ps en1 vs H1 G1 _ s1 k1 S1 o1 p1 => ?_
  cases e2 : stVarsO is ps en1 with
  | none => rw [e2] at p1; exact p1.elim
  | some en2 =>
    rw [e2] at p1
    obtain ⟨k, S2, l⟩ := stVarsO_ok S1 o1 e2
    have p1 : PstS Y W G1 R σ en1 (.ok .nx en2) D1 := p1
    exact ⟨l.symm, p1 _ H1 G1 (Same.refl _) k S2⟩
theorem st_par2 {i j : Nat} {x y : Str} {a b : Expr} {as' : Es} {px py pt pos : Pos} {kt k2 pt2} (hc : X.calm = true) (hN : X.N.Nodup) (ha : PA X [a, b] (rdP Y W U as')) (hi : X.N[i]? = some x := by rfl) (hj : X.N[j]? = some y := by rfl) (hij : i ≠ j := by decide)
    (hx : X.env.scope.names.lookup x = some .local := by rfl) (hy : X.env.scope.names.lookup y = some .local := by rfl)
    (hw : swappedStores [.Tuple [.Name x px, .Name y py] kt pt] (.Tuple [a, b] k2 pt2) X.env = pure (some [x, y]) := by rfl)
    (hs : swapsWithSole [.Tuple [.Name x px, .Name y py] kt pt] (.Tuple [a, b] k2 pt2) pos.line X.env = pure false := by rfl) :
    PS X (.Assign [.Tuple [.Name x px, .Name y py] kt pt] (.Tuple [a, b] k2 pt2) pos) (rdS Y W U (.par [i, j] as')) :=
  (ps_par hc hN hi hj hij hx hy ha hw hs).imp fun D σ H h => by
    obtain ⟨G, R, en, S, p⟩ := par_red h
    refine ⟨G, R, en, S, ?_⟩
    have imp : ∀ vs H1, (vs.length = [i, j].length ∧ D.nx (setAll σ [i, j] vs) H1) → ∃ v w, vs = [v, w] ∧ D.nx ((σ.set i (some v)).set j (some w)) H1 := fun vs H1 ⟨h1, h2⟩ => by
      match vs, h1 with
      | [v, w], _ => exact ⟨v, w, rfl, h2⟩
    generalize evP U.C U.md as' en = r at p
    cases r with
    | ok a en' => exact fun b H' G' s k S o => imp _ _ (p b H' G' s k S o)
    | er x en' => exact p
    | bad => exact p
theorem st_par3 {i j l : Nat} {x y z : Str} {a b c : Expr} {as' : Es} {px py pz pt pos : Pos} {kt k2 pt2} (hc : X.calm = true) (hN : X.N.Nodup) (ha : PA X [a, b, c] (rdP Y W U as')) (hi : X.N[i]? = some x := by rfl) (hj : X.N[j]? = some y := by rfl) (hl : X.N[l]? = some z := by rfl)
    (hij : i ≠ j := by decide) (hil : i ≠ l := by decide) (hjl : j ≠ l := by decide)
    (hx : X.env.scope.names.lookup x = some .local := by rfl) (hy : X.env.scope.names.lookup y = some .local := by rfl) (hz : X.env.scope.names.lookup z = some .local := by rfl)
    (hw : swappedStores [.Tuple [.Name x px, .Name y py, .Name z pz] kt pt] (.Tuple [a, b, c] k2 pt2) X.env = pure (some [x, y, z]) := by rfl)
    (hs : swapsWithSole [.Tuple [.Name x px, .Name y py, .Name z pz] kt pt] (.Tuple [a, b, c] k2 pt2) pos.line X.env = pure false := by rfl) :
    PS X (.Assign [.Tuple [.Name x px, .Name y py, .Name z pz] kt pt] (.Tuple [a, b, c] k2 pt2) pos) (rdS Y W U (.par [i, j, l] as')) :=
  (ps_par3 hc hN hi hj hl hij hil hjl hx hy hz ha hw hs).imp fun D σ H h => by
    obtain ⟨G, R, en, S, p⟩ := par_red h
    refine ⟨G, R, en, S, ?_⟩
    have imp : ∀ vs H1, (vs.length = [i, j, l].length ∧ D.nx (setAll σ [i, j, l] vs) H1) → ∃ u v w, vs = [u, v, w] ∧ D.nx (((σ.set i (some u)).set j (some v)).set l (some w)) H1 := fun vs H1 ⟨h1, h2⟩ => by
      match vs, h1 with
      | [u, v, w], _ => exact ⟨u, v, w, rfl, h2⟩
    generalize evP U.C U.md as' en = r at p
    cases r with
    | ok a en' => exact fun b H' G' s k S o => imp _ _ (p b H' G' s k S o)
    | er x en' => exact p
    | bad => exact p
/-! ### name = [..] -/
theorem Pst.impQ {α β : Type} {ok1 : Hp → Hp → Hp → L2.St → En → α → β → Prop} {G R : Hp} {σ : L2.St} {en : En} {r : Rs α} {Q Q' : β → Hp → Prop} (h : Pst Y W ok1 G R σ en r Q) (k : ∀ b H, Q b H → Q' b H) : Pst Y W ok1 G R σ en r Q' := by
  cases r with
  | ok a en' => exact fun b H' G' s kp S o => k _ _ (h b H' G' s kp S o)
  | er x en' => exact h
  | bad => exact h
theorem rdG_nm {i : Nat} {v : V} {σ : L2.St} {H : Hp} {Q : L2.St → Hp → Prop} (h : rdG Y (.nm i) v σ H Q) : gName i v σ H Q := by
  obtain ⟨G, R, en, d, own, S, o, m⟩ := h
  cases q : stTg (.nm i) d own en with
  | none => rw [q] at m; exact m.elim
  | some en' =>
    rw [q] at m
    have q' : stVar i d own en = some en' := q
    exact m _ (Keep.st q') (S.st q' o) fun j hj => List.getElem?_set_ne fun z => hj (by subst z; exact List.mem_cons_self)
theorem asgL_red {tg : TI} {i : Nat} {vs : List Nat} {tm : Tg} {k : ItK} {as' : Es} {c' e' : E} {tt : TT} {D1 : Ends} {σ : L2.St} {H : Hp} (ht : tt = rdT Y W0 U c' ∨ (tt = tYes ∧ c' = .cst (.bl true)))
    (h : rdS Y W U (.asg (.nm i) (.lc vs tm k as' c' e')) D1 σ H) : tAsg (tLc (rdI Y W U k as') (rdG Y tm) tt (rdE Y W0 U e') vs) (gName i) D1 σ H := by
  obtain ⟨G, R, en, S, p⟩ := asg_red (e := rdE Y W U (.lc vs tm k as' c' e')) (g := rdG Y (.nm i)) h
  exact lc_red ht ⟨G, R, en, S, p.impQ fun b H q => rdG_nm q⟩
theorem st_asgLc0 {i : Nat} {y : Str} {py : Pos} {elt tg iter : Expr} {scope : Scope} {own : List (Str × Nat)} {pos spos : Pos} {tm : Tg} {k : ItK} {as' : Es} {e' : E} (hc : X.calm = true) (nd : X.N.Nodup) (hi : PI X tg iter (rdI Y W U k as')) (ok : BlkOk X.N X.env.scope scope own)
    (hg : ∀ (s : Shared) (H : Hp) (C : Addr) (cl : List (Str × Addr)) (fp : List Addr), PG (X.blk s H scope (compEnvC scope cl C X.env) fp) tg (rdG Y tm))
    (he : ∀ (s : Shared) (H : Hp) (C : Addr) (cl : List (Str × Addr)) (fp : List Addr), PE (X.blk s H scope (compEnvC scope cl C X.env) fp) elt (rdE Y W0 U e'))
    (hy : X.N[i]? = some y := by rfl) (hyl : X.env.scope.names.lookup y = some .local := by rfl) (hk : X.env.scope.kind = .function := by rfl) (hl : (py.line == pos.line) = true := by rfl) (ha : (scope.names.any fun (n, k) => n == y && (k == .local || k == .cell)) = false := by rfl) (hs : ∀ x, foldedSetIterable iter X.env x = pure x := by intro _; rfl) :
    PS X (.Assign [.Name y py] (.ListComp elt [⟨tg, iter, [], 0⟩] scope pos) spos) (rdS Y W U (.asg (.nm i) (.lc (own.map (·.2)) tm k as' (.cst (.bl true)) e'))) :=
  (ps_setLc (tt := tYes) hc nd hy hyl (sw_true hk hyl hl ha) hi ok hg (fun _ _ _ _ _ => pts_nil) he hs).imp fun _ _ _ q => asgL_red (tg := fun _ _ _ => False) (.inr ⟨rfl, rfl⟩) q
theorem st_asgLc1 {i : Nat} {y : Str} {py : Pos} {elt tg iter c : Expr} {scope : Scope} {own : List (Str × Nat)} {pos spos : Pos} {tm : Tg} {k : ItK} {as' : Es} {e' c' : E} (hc : X.calm = true) (nd : X.N.Nodup) (hi : PI X tg iter (rdI Y W U k as')) (ok : BlkOk X.N X.env.scope scope own)
    (hg : ∀ (s : Shared) (H : Hp) (C : Addr) (cl : List (Str × Addr)) (fp : List Addr), PG (X.blk s H scope (compEnvC scope cl C X.env) fp) tg (rdG Y tm))
    (ht : ∀ (s : Shared) (H : Hp) (C : Addr) (cl : List (Str × Addr)) (fp : List Addr), PT (X.blk s H scope (compEnvC scope cl C X.env) fp) c (rdT Y W0 U c'))
    (he : ∀ (s : Shared) (H : Hp) (C : Addr) (cl : List (Str × Addr)) (fp : List Addr), PE (X.blk s H scope (compEnvC scope cl C X.env) fp) elt (rdE Y W0 U e'))
    (hy : X.N[i]? = some y := by rfl) (hyl : X.env.scope.names.lookup y = some .local := by rfl) (hk : X.env.scope.kind = .function := by rfl) (hl : (py.line == pos.line) = true := by rfl) (ha : (scope.names.any fun (n, k) => n == y && (k == .local || k == .cell)) = false := by rfl) (hs : ∀ x, foldedSetIterable iter X.env x = pure x := by intro _; rfl) :
    PS X (.Assign [.Name y py] (.ListComp elt [⟨tg, iter, [c], 0⟩] scope pos) spos) (rdS Y W U (.asg (.nm i) (.lc (own.map (·.2)) tm k as' c' e'))) :=
  (ps_setLc (tt := rdT Y W0 U c') hc nd hy hyl (sw_true hk hyl hl ha) hi ok hg (fun s H C cl fp => pts_one (ht s H C cl fp)) he hs).imp fun _ _ _ q => asgL_red (tg := fun _ _ _ => False) (.inl rfl) q
/-! ### a comprehension over a list of ours -/
theorem Pst.freeze {G R : Hp} {σ : L2.St} {en : En} {i : Nat} {ow : Ow} {a : Addr} {vs : List V} {xs : List L3.D} {r : Rs (L3.D × Bool)} {Q : VK} (hi : en[i]? = some (some (ow, .lst xs))) (ho : ow.isOwn = true) (e1 : σ[i]? = some (some (.ref a))) (ha : R a = none) (rp : RepL Y G vs xs)
    (p : Pst Y W (okV Y) G R σ en (unfz i (ow, .lst xs) r) Q) : Pst Y W (okV Y) G (upd R a (.lst vs)) σ (en.set i frz) r Q := by
  cases r with
  | bad => exact p
  | ok pr en' =>
    rcases unfz_okN (i := i) (c := (ow, .lst xs)) (x := pr) (en := en') with h | h
    · rw [unfz_ok h] at p
      intro v H' G' s k S o
      obtain ⟨k', e0⟩ := Keep.thaw (d' := .lst xs) hi h k
      have e1' : σ[i]? = some (some (V.ref a)) := e1
      exact p v H' G' s k' (S.thaw h ho e1' ha (rp.mono s)) (Vok.thaw e1' h ha o)
    · rw [h] at p; exact p.elim
  | er x en' =>
    rcases unfz_erN (α := L3.D × Bool) (i := i) (c := (ow, .lst xs)) (x := x) (en := en') with h | h
    · rw [unfz_er h] at p
      intro cls dd H' G' s k S o
      obtain ⟨k', e0⟩ := Keep.thaw (d' := .lst xs) hi h k
      exact p cls dd H' G' s k' (S.thaw h ho e1 ha (rp.mono s)) o
    · rw [h] at p; exact p.elim
theorem lcp_red {σ : L2.St} {H : Hp} {Q : VK} {vs : List Nat} {tg : Tg} {i : Nat} {c' e' : E} {tt : TT} (hK : X.K = Y.K) (hth : ∀ a, Y.th a) (ht : tt = rdT Y W0 U c' ∨ (tt = tYes ∧ c' = .cst (.bl true)))
    (h : rdE Y W U (.lcp vs tg i c' e') σ H Q) : tLc (wiP X (rdX Y W U (.pk i))) (rdG Y tg) tt (rdE Y W0 U e') vs σ H Q := by
  obtain ⟨G, R, en, S, p⟩ := h
  refine ⟨G, R, en, S, ?_⟩
  rw [evE] at p
  cases hw : walkP i en with
  | none => rw [hw] at p; exact p.elim
  | some t =>
    obtain ⟨xs, k, en1⟩ := t
    rw [hw] at p
    have p : Pst Y W (okV Y) G R σ en (if (vs.all (shE en1) && tg.slots.all vs.contains) = true then unfzO i k ((loopC vs tg (fun en => toB (evE U.C U.md c' en)) (fun en => evE U.C U.md e' en) xs [] (wipeE en1 vs)).bind fun ys en' => .ok (.lst ys, true) (restE en1 en' vs)) else .bad) Q := p
    split at p
    case isFalse => exact p.elim
    case isTrue hcond =>
    obtain ⟨hc1, hc2⟩ := Bool.and_eq_true_iff.mp hcond
    have hs : ∀ v ∈ vs, shE en1 v = true := fun v hv => List.all_eq_true.mp hc1 v hv
    have hsl : ∀ j, j ∈ tg.slots → j ∈ vs := fun j hj => by simpa using List.all_eq_true.mp hc2 j hj
    unfold walkP at hw
    cases hi : en[i]? with
    | none => rw [hi] at hw; cases hw
    | some c =>
      rw [hi] at hw
      cases c with
      | none => cases hw
      | some c =>
        obtain ⟨ow, d⟩ := c
        show Pst Y W (okA Y) G R σ en (match en[i]? with | some (some _) => .ok (.p i) en | _ => .bad) _
        rw [hi]
        intro v H1 G1 s1 k1 S1 o1
        have o1 : σ[i]? = some (some v) := o1
        have hw : walkD i ow d en = some (xs, k, en1) := hw
        unfold walkD at hw
        cases ho : ow.isOwn with
        | true =>
          rw [ho, if_pos rfl] at hw
          cases d with
          | lst ys =>
            cases hw
            obtain ⟨a, vv, e1, h1, rp, g0, r0, SF⟩ := S1.freeze hi ho hth
            rw [e1] at o1; cases o1
            refine ⟨a, rfl, .inl ⟨vv, .inl (.inl h1), ?_⟩⟩
            rw [hK]
            exact lc_coreR (U := U) ht (gives_listR upd_same rp) SF hs hsl (Pst.freeze hi ho e1 r0 rp (Pst.weak (r := unfz i (ow, .lst xs) _) p s1 k1))
          | _ => cases hw
        | false =>
          rw [ho, if_neg (by decide)] at hw
          cases hq : seqD d with
          | none => rw [hq] at hw; cases hw
          | some ys =>
            rw [hq] at hw
            cases hw
            obtain ⟨u, e1, rp⟩ := S1.sh i ow d hi ho
            rw [e1] at o1; cases o1
            obtain ⟨q, rfl, hh⟩ := gives_sh hK S1 rp hq
            refine ⟨q, rfl, ?_⟩
            have p1 := Pst.weak (r := (loopC vs tg (fun en => toB (evE U.C U.md c' en)) (fun en => evE U.C U.md e' en) xs [] (wipeE en vs)).bind fun ys en' => Rs.ok (L3.D.lst ys, true) (restE en en' vs)) p s1 k1
            rcases hh with ⟨ys, h1, gv⟩ | ⟨ys, h1, gv⟩
            · exact .inl ⟨ys, h1, lc_coreR (U := U) ht gv.r S1 hs hsl p1⟩
            · exact .inr ⟨ys, h1, lc_coreR (U := U) ht gv.r S1 hs hsl p1⟩
theorem asgLp_red {i : Nat} {vs : List Nat} {tm : Tg} {l : Nat} {c' e' : E} {tt : TT} {D1 : Ends} {σ : L2.St} {H : Hp} (hK : X.K = Y.K) (hth : ∀ a, Y.th a) (ht : tt = rdT Y W0 U c' ∨ (tt = tYes ∧ c' = .cst (.bl true)))
    (h : rdS Y W U (.asg (.nm i) (.lcp vs tm l c' e')) D1 σ H) : tAsg (tLc (wiP X (rdX Y W U (.pk l))) (rdG Y tm) tt (rdE Y W0 U e') vs) (gName i) D1 σ H := by
  obtain ⟨G, R, en, S, p⟩ := asg_red (e := rdE Y W U (.lcp vs tm l c' e')) (g := rdG Y (.nm i)) h
  exact lcp_red hK hth ht ⟨G, R, en, S, p.impQ fun b H q => rdG_nm q⟩
theorem s_lcp0 {elt tg iter : Expr} {scope : Scope} {own : List (Str × Nat)} {pos : Pos} {tm : Tg} {l : Nat} {e' : E} (hc : X.calm = true) (nd : X.N.Nodup) (hK : X.K = Y.K) (hth : ∀ a, Y.th a) (hn : PE X iter (rdX Y W U (.pk l))) (ok : BlkOk X.N X.env.scope scope own)
    (hg : ∀ (s : Shared) (H : Hp) (C : Addr) (cl : List (Str × Addr)) (fp : List Addr), PG (X.blk s H scope (compEnvC scope cl C X.env) fp) tg (rdG Y tm))
    (he : ∀ (s : Shared) (H : Hp) (C : Addr) (cl : List (Str × Addr)) (fp : List Addr), PE (X.blk s H scope (compEnvC scope cl C X.env) fp) elt (rdE Y W0 U e')) (hs : ∀ x, foldedSetIterable iter X.env x = pure x := by intro _; rfl) :
    PE X (.ListComp elt [⟨tg, iter, [], 0⟩] scope pos) (rdE Y W U (.lcp (own.map (·.2)) tm l (.cst (.bl true)) e')) :=
  (pe_lc (tt := tYes) hc nd (pi_any hn) ok hg (fun _ _ _ _ _ => pts_nil) he hs).imp fun _ _ _ q => lcp_red hK hth (.inr ⟨rfl, rfl⟩) q
theorem s_lcp1 {elt tg iter c : Expr} {scope : Scope} {own : List (Str × Nat)} {pos : Pos} {tm : Tg} {l : Nat} {e' c' : E} (hc : X.calm = true) (nd : X.N.Nodup) (hK : X.K = Y.K) (hth : ∀ a, Y.th a) (hn : PE X iter (rdX Y W U (.pk l))) (ok : BlkOk X.N X.env.scope scope own)
    (hg : ∀ (s : Shared) (H : Hp) (C : Addr) (cl : List (Str × Addr)) (fp : List Addr), PG (X.blk s H scope (compEnvC scope cl C X.env) fp) tg (rdG Y tm))
    (ht : ∀ (s : Shared) (H : Hp) (C : Addr) (cl : List (Str × Addr)) (fp : List Addr), PT (X.blk s H scope (compEnvC scope cl C X.env) fp) c (rdT Y W0 U c'))
    (he : ∀ (s : Shared) (H : Hp) (C : Addr) (cl : List (Str × Addr)) (fp : List Addr), PE (X.blk s H scope (compEnvC scope cl C X.env) fp) elt (rdE Y W0 U e')) (hs : ∀ x, foldedSetIterable iter X.env x = pure x := by intro _; rfl) :
    PE X (.ListComp elt [⟨tg, iter, [c], 0⟩] scope pos) (rdE Y W U (.lcp (own.map (·.2)) tm l c' e')) :=
  (pe_lc (tt := rdT Y W0 U c') hc nd (pi_any hn) ok hg (fun s H C cl fp => pts_one (ht s H C cl fp)) he hs).imp fun _ _ _ q => lcp_red hK hth (.inl rfl) q
theorem st_asgLcp0 {i : Nat} {y : Str} {py : Pos} {elt tg iter : Expr} {scope : Scope} {own : List (Str × Nat)} {pos spos : Pos} {tm : Tg} {l : Nat} {e' : E} (hc : X.calm = true) (nd : X.N.Nodup) (hK : X.K = Y.K) (hth : ∀ a, Y.th a) (hn : PE X iter (rdX Y W U (.pk l))) (ok : BlkOk X.N X.env.scope scope own)
    (hg : ∀ (s : Shared) (H : Hp) (C : Addr) (cl : List (Str × Addr)) (fp : List Addr), PG (X.blk s H scope (compEnvC scope cl C X.env) fp) tg (rdG Y tm))
    (he : ∀ (s : Shared) (H : Hp) (C : Addr) (cl : List (Str × Addr)) (fp : List Addr), PE (X.blk s H scope (compEnvC scope cl C X.env) fp) elt (rdE Y W0 U e'))
    (hy : X.N[i]? = some y := by rfl) (hyl : X.env.scope.names.lookup y = some .local := by rfl) (hk : X.env.scope.kind = .function := by rfl) (hl : (py.line == pos.line) = true := by rfl) (ha : (scope.names.any fun (n, k) => n == y && (k == .local || k == .cell)) = false := by rfl) (hs : ∀ x, foldedSetIterable iter X.env x = pure x := by intro _; rfl) :
    PS X (.Assign [.Name y py] (.ListComp elt [⟨tg, iter, [], 0⟩] scope pos) spos) (rdS Y W U (.asg (.nm i) (.lcp (own.map (·.2)) tm l (.cst (.bl true)) e'))) :=
  (ps_setLc (tt := tYes) hc nd hy hyl (sw_true hk hyl hl ha) (pi_any hn) ok hg (fun _ _ _ _ _ => pts_nil) he hs).imp fun _ _ _ q => asgLp_red hK hth (.inr ⟨rfl, rfl⟩) q
theorem st_asgLcp1 {i : Nat} {y : Str} {py : Pos} {elt tg iter c : Expr} {scope : Scope} {own : List (Str × Nat)} {pos spos : Pos} {tm : Tg} {l : Nat} {e' c' : E} (hc : X.calm = true) (nd : X.N.Nodup) (hK : X.K = Y.K) (hth : ∀ a, Y.th a) (hn : PE X iter (rdX Y W U (.pk l))) (ok : BlkOk X.N X.env.scope scope own)
    (hg : ∀ (s : Shared) (H : Hp) (C : Addr) (cl : List (Str × Addr)) (fp : List Addr), PG (X.blk s H scope (compEnvC scope cl C X.env) fp) tg (rdG Y tm))
    (ht : ∀ (s : Shared) (H : Hp) (C : Addr) (cl : List (Str × Addr)) (fp : List Addr), PT (X.blk s H scope (compEnvC scope cl C X.env) fp) c (rdT Y W0 U c'))
    (he : ∀ (s : Shared) (H : Hp) (C : Addr) (cl : List (Str × Addr)) (fp : List Addr), PE (X.blk s H scope (compEnvC scope cl C X.env) fp) elt (rdE Y W0 U e'))
    (hy : X.N[i]? = some y := by rfl) (hyl : X.env.scope.names.lookup y = some .local := by rfl) (hk : X.env.scope.kind = .function := by rfl) (hl : (py.line == pos.line) = true := by rfl) (ha : (scope.names.any fun (n, k) => n == y && (k == .local || k == .cell)) = false := by rfl) (hs : ∀ x, foldedSetIterable iter X.env x = pure x := by intro _; rfl) :
    PS X (.Assign [.Name y py] (.ListComp elt [⟨tg, iter, [c], 0⟩] scope pos) spos) (rdS Y W U (.asg (.nm i) (.lcp (own.map (·.2)) tm l c' e'))) :=
  (ps_setLc (tt := rdT Y W0 U c') hc nd hy hyl (sw_true hk hyl hl ha) (pi_any hn) ok hg (fun s H C cl fp => pts_one (ht s H C cl fp)) he hs).imp fun _ _ _ q => asgLp_red hK hth (.inl rfl) q
end
end L3

/-! L3K: methods of lists; items set. -/
namespace L3
open PySem PySem.Spec PyProof.Rows L2
section
variable {X : Cx} {Y : Wd} {W : WX} {U : Ev}
theorem Mt.run_lst {m : Mt} {d : D} {ds : List D} {q : D × D} (e : m.run d ds = some q) : ∃ xs, d = .lst xs := by
  cases d <;> first | exact ⟨_, rfl⟩ | (cases m <;> cases e)
theorem mt_fin {m : Mt} {i : Nat} {avs : List Av} {vs : List V} {v : V} {G R H : Hp} {σ : L2.St} {en : En} {Q : VK} (S : Sep Y G R H σ en) (o1 : σ[i]? = some (some v)) (oA : AokL Y G σ en vs avs) (p : Pst Y W (okV Y) G R σ en (mtFin m i avs en) Q) :
    ∃ a vs0 xs ds d' r, v = .ref a ∧ H a = some (.lst vs0) ∧ RepL Y G vs0 xs ∧ RepL Y G vs ds ∧ m.run (.lst xs) ds = some (d', r) ∧ ∀ vs1 ds1 w, d' = .lst ds1 → RepL Y G vs1 ds1 → Rep Y G w r → Q w (upd H a (.lst vs1)) := by
  unfold mtFin at p
  split at p
  · rename_i ds ow d e1 e2
    split at p
    · rename_i hown
      split at p
      · rename_i d' r e3
        obtain ⟨xs, rfl⟩ := Mt.run_lst e3
        obtain ⟨a, f1, f2⟩ := S.own i ow _ e2 hown
        rw [o1] at f1; cases f1
        cases f2.t with
        | lst h1 h2 =>
          refine ⟨a, _, xs, ds, d', r, rfl, h1, h2, repL_of oA e1, e3, fun vs1 ds1 w ed r1 r2 => ?_⟩
          subst ed
          exact p w _ G (Same.refl _) (Keep.setSame e2 rfl) (S.write e2 hown o1 (.lst upd_same r1)) r2
      · exact p.elim
    · exact p.elim
  · exact p.elim
/-- what a method's promise must say -/
def MtSp (Y : Wd) (m : Mt) (r : V → List V → Hp → VK → Prop) : Prop := ∀ (G H : Hp) (a : Addr) (vs0 vs : List V) (xs ds : List D) (d' res : D) (Q : VK), Same G H → H a = some (.lst vs0) → RepL Y G vs0 xs → RepL Y G vs ds → m.run (.lst xs) ds = some (d', res) →
  (∀ vs1 ds1 w, d' = .lst ds1 → RepL Y G vs1 ds1 → Rep Y G w res → Q w (upd H a (.lst vs1))) → r (.ref a) vs H Q
theorem mt_core {m : Mt} {i : Nat} {as' : Es} {r : V → List V → Hp → VK → Prop} {σ : L2.St} {H : Hp} {Q : VK} (hm : MtSp Y m r) (h : rdE Y W U (.mt m i as') σ H Q) : tBM X.K "list" r (rdX Y W U (.pk i)) (rdA Y W U as') σ H Q := by
  obtain ⟨G, R, en, S, p⟩ := h
  refine ⟨G, R, en, S, ?_⟩
  rw [evE] at p
  split at p
  · rename_i hat
    unfold mtAt at hat
    split at hat
    · rename_i ow d e
      obtain ⟨h1, h2⟩ := Bool.and_eq_true_iff.mp hat
      obtain ⟨a, f1, f2⟩ := S.own i ow d e h1
      show Pst Y W (okA Y) G R σ en (match en[i]? with | some (some _) => .ok (.p i) en | _ => .bad) _
      rw [e]
      intro v H1 G1 s1 k1 S1 o1
      have o1 : σ[i]? = some (some v) := o1
      rw [f1] at o1; cases o1
      refine ⟨?_, rd.mk S1 (Pst.bind (Pst.weak (r := (evA U.C U.md as' en).bind _) p s1 (Keep.refl _ _)) fun avs en2 vs H2 G2 _ s2 k2 S2 o2 p2 => ?_)⟩
      · obtain ⟨a', g1, g2⟩ := S1.own i ow d e h1
        rw [f1] at g1; cases g1
        have t := g2.t
        cases d with
        | lst ds => cases t with | lst t1 t2 => exact .inl ⟨rfl, _, .inl (.inl t1)⟩
        | _ => cases h2
      · obtain ⟨a', vs0, xs, ds, d', res, ea, q1, q2, q3, q4, q5⟩ := mt_fin S2 f1 o2 p2
        cases ea
        exact hm G2 H2 a vs0 vs xs ds d' res Q S2.gH q1 q2 q3 q4 q5
    · cases hat
  · exact p.elim
theorem mt_core0 {m : Mt} {i : Nat} {r : V → List V → Hp → VK → Prop} {σ : L2.St} {H : Hp} {Q : VK} (hm : MtSp Y m r) (h : rdE Y W U (.mt m i .nil) σ H Q) : tBM0 X.K "list" r (rdX Y W U (.pk i)) σ H Q := by
  obtain ⟨G, R, en, S, p⟩ := mt_core (X := X) hm h
  refine ⟨G, R, en, S, p.impQ fun v H1 ⟨t, G1, R1, en1, S1, p1⟩ => ⟨t, ?_⟩⟩
  rw [evA] at p1
  exact p1 [] H1 G1 (Same.refl _) (Keep.refl _ _) S1 trivial
theorem sp_app : MtSp Y .app rAppend := fun G H a vs0 vs xs ds d' res Q gH h1 h2 h3 h4 h5 => by
  match ds, h4 with
  | [y], h4 =>
    obtain ⟨v, rfl, hv⟩ := repL1 h3
    have h4 : (if decide (xs.length < sizeLine) = true then some (D.lst (xs ++ [y]), D.non) else none) = some (d', res) := h4
    split at h4
    · rename_i hl
      cases h4
      exact ⟨a, vs0, v, rfl, rfl, h1, by rw [h2.length]; exact of_decide_eq_true hl, h5 _ _ _ rfl (h2.append (.cons hv .nil)) .non⟩
    · cases h4
  | [], h4 => cases h4
  | _ :: _ :: _, h4 => cases h4
theorem sp_ext : MtSp Y .ext rExtend := fun G H a vs0 vs xs ds d' res Q gH h1 h2 h3 h4 h5 => by
  match ds, h4 with
  | [.lst ys], h4 =>
    obtain ⟨v, rfl, hv⟩ := repL1 h3
    cases hv with | lst g1 g2 =>
      have h4 : (if fit (xs.length + ys.length) = true then some (D.lst (xs ++ ys), D.non) else none) = some (d', res) := h4
      split at h4
      · rename_i hl
        cases h4
        exact ⟨a, _, vs0, _, rfl, rfl, h1, gH _ _ g1, by rw [h2.length, g2.length]; exact of_decide_eq_true hl, h5 _ _ _ rfl (h2.append g2) .non⟩
      · cases h4
  | [], h4 => cases h4
  | [.non], h4 | [.bl _], h4 | [.int _], h4 | [.str _], h4 | [.tup _], h4 | [.fls _], h4 | [.dct _ _], h4 | [.set _], h4 | [.obj _ _ _], h4 | [.exc _ _ _], h4 | [.thk _ _], h4 => cases h4
  | z :: _ :: _, h4 => cases z <;> cases h4
theorem sp_pop : MtSp Y .pop rPop := fun G H a vs0 vs xs ds d' res Q gH h1 h2 h3 h4 h5 => by
  match ds, h4 with
  | [], h4 =>
    cases h3
    have h4 : (match xs[xs.length - 1]? with | some y => some (D.lst xs.dropLast, y) | none => none) = some (d', res) := h4
    split at h4
    · rename_i y e
      cases h4
      obtain ⟨v, e1, e2⟩ := h2.get e
      exact ⟨a, vs0, v, rfl, rfl, h1, by rw [h2.length]; exact e1, h5 _ _ _ rfl h2.dropLast e2⟩
    · cases h4
  | _ :: _, h4 => cases h4
theorem sp_popAt : MtSp Y .popAt rPopAt := fun G H a vs0 vs xs ds d' res Q gH h1 h2 h3 h4 h5 => by
  match ds, h4 with
  | [.int i], h4 =>
    obtain ⟨v, rfl, hv⟩ := repL1 h3
    cases hv
    have h4 : (if decide (-(2 ^ 63) ≤ i ∧ i < 2 ^ 63) = true then (match ixN xs.length i with | some k => (match xs[k]? with | some y => some (D.lst (xs.eraseIdx k), y) | none => none) | none => none) else none) = some (d', res) := h4
    split at h4
    · rename_i hi
      have hi := of_decide_eq_true hi
      split at h4
      · rename_i k e
        split at h4
        · rename_i y e2
          cases h4
          obtain ⟨v, e1, e3⟩ := h2.get e2
          exact ⟨a, vs0, i, k, v, rfl, rfl, h1, hi.1, hi.2, by rw [h2.length]; exact (ixN_seq e).1, e1, h5 _ _ _ rfl (h2.eraseIdx k) e3⟩
        · cases h4
      · cases h4
    · cases h4
  | [], h4 => cases h4
  | [.non], h4 | [.bl _], h4 | [.lst _], h4 | [.str _], h4 | [.tup _], h4 | [.fls _], h4 | [.dct _ _], h4 | [.set _], h4 | [.obj _ _ _], h4 | [.exc _ _ _], h4 | [.thk _ _], h4 => cases h4
  | z :: _ :: _, h4 => cases z <;> cases h4
theorem sp_clear : MtSp Y .clear rClear := fun G H a vs0 vs xs ds d' res Q gH h1 h2 h3 h4 h5 => by
  match ds, h4 with
  | [], h4 =>
    cases h3
    cases h4
    exact ⟨a, vs0, rfl, rfl, h1, h5 _ _ _ rfl .nil .non⟩
  | _ :: _, h4 => cases h4
variable {i : Nat} {x : Str} {e : Expr} {es : List Expr} {as' : Es} {p apos cpos : Pos}
theorem s_pop0 (ho : PE X (.Name x p) (rdX Y W U (.pk i))) (hline : (apos.endLine == cpos.line) = true := by rfl) : PE X (.Call (.Attribute (.Name x p) "pop" apos) [] [] cpos) (rdE Y W U (.mt .pop i .nil)) :=
  (pe_bm0 PySem.F.plainAttrs_list PySem.F.slot_list_pop PySem.F.type_list_pop mt_pop ho rfl hline).imp fun _ _ _ q => mt_core0 sp_pop q
theorem s_clear (ho : PE X (.Name x p) (rdX Y W U (.pk i))) (hline : (apos.endLine == cpos.line) = true := by rfl) : PE X (.Call (.Attribute (.Name x p) "clear" apos) [] [] cpos) (rdE Y W U (.mt .clear i .nil)) :=
  (pe_bm0 PySem.F.plainAttrs_list PySem.F.slot_list_clear PySem.F.type_list_clear mt_clear ho rfl hline).imp fun _ _ _ q => mt_core0 sp_clear q
theorem s_popAt (ho : PE X (.Name x p) (rdX Y W U (.pk i))) (ha : PA X [e] (rdA Y W U as')) (hline : (apos.endLine == cpos.line) = true := by rfl) (hs : starEach [e] X.env = (false, eval e X.env) :: starEach [] X.env := by rfl) :
    PE X (.Call (.Attribute (.Name x p) "pop" apos) [e] [] cpos) (rdE Y W U (.mt .popAt i as')) :=
  (pe_bm PySem.F.plainAttrs_list PySem.F.slot_list_pop PySem.F.type_list_pop mt_popAt ho ha rfl (by rw [hs]; rfl) hline hs rfl).imp fun _ _ _ q => mt_core sp_popAt q
theorem s_app (ho : PE X (.Name x p) (rdX Y W U (.pk i))) (ha : PA X [e] (rdA Y W U as')) (hline : (apos.endLine == cpos.line) = true := by rfl) (hs : starEach [e] X.env = (false, eval e X.env) :: starEach [] X.env := by rfl) :
    PE X (.Call (.Attribute (.Name x p) "append" apos) [e] [] cpos) (rdE Y W U (.mt .app i as')) :=
  (pe_bm PySem.F.plainAttrs_list PySem.F.slot_list_append PySem.F.type_list_append mt_append ho ha rfl (by rw [hs]; rfl) hline hs rfl).imp fun _ _ _ q => mt_core sp_app q
theorem s_ext (ho : PE X (.Name x p) (rdX Y W U (.pk i))) (ha : PA X [e] (rdA Y W U as')) (hline : (apos.endLine == cpos.line) = true := by rfl) (hs : starEach [e] X.env = (false, eval e X.env) :: starEach [] X.env := by rfl) :
    PE X (.Call (.Attribute (.Name x p) "extend" apos) [e] [] cpos) (rdE Y W U (.mt .ext i as')) :=
  (pe_bm PySem.F.plainAttrs_list PySem.F.slot_list_extend PySem.F.type_list_extend mt_extend ho ha rfl (by rw [hs]; rfl) hline hs rfl).imp fun _ _ _ q => mt_core sp_ext q
/-! ### o[i] = e -/
theorem evA_two (C : Nat → List (Bool × D) → CRes) (md : Nat → List Bool) (a b : E) (en : En) : evA C md (.cons a (.cons b .nil)) en = (argOf a (evE C md a en) en).bind fun x en => (argOf b (evE C md b en) en).bind fun y en => .ok [x, y] en := by
  rw [evA_cons]
  congr 1; funext x en
  rw [evA_cons, Rs.bind_assoc]
  congr 1
theorem st_seti {v ix : Expr} {v' ix' : E} {spos pos : Pos} (ho : PE X (.Name x p) (rdX Y W U (.pk i))) (hv : PE X v (rdX Y W U v')) (hi : PE X ix (rdX Y W U ix'))
    (ha : ∀ v, assign (.Subscript (.Name x p) ix spos) X.env v = (do
      let ov ← holding [v] (eval (.Name x p) X.env)
      let iv ← holding [v, ov] (eval ix X.env)
      standAt spos
      holding [v, ov, iv] (setItem ov iv v)
      release [v, ov, iv] []) := by intro _; rfl) (hs : swapsWithSole [.Subscript (.Name x p) ix spos] v pos.line X.env = pure false := by rfl) (hw : swappedStores [.Subscript (.Name x p) ix spos] v X.env = pure none := by rfl)
    (h1 : (assignEach [.Subscript (.Name x p) ix spos] X.env).map (·.2) = [assign (.Subscript (.Name x p) ix spos) X.env] := by rfl) :
    PS X (.Assign [.Subscript (.Name x p) ix spos] v pos) (rdS Y W U (.seti i v' ix')) := by
  refine (ps_asg hv (pg_sub ho hi set_list ha) hs hw h1).imp fun D1 σ H ⟨G, R, en, S, q⟩ => ⟨G, R, en, S, ?_⟩
  rw [evS] at q
  refine PstS.bindE q fun av1 en1 w H1 G1 hev s1 k1 S1 o1 q1 => ?_
  split at q1
  · rename_i hat
    unfold mtAt at hat
    split at hat
    · rename_i ow d e
      obtain ⟨h1, h2⟩ := Bool.and_eq_true_iff.mp hat
      obtain ⟨a, f1, f2⟩ := S1.own i ow d e h1
      refine rd.mk S1 ?_
      show Pst Y W (okA Y) G1 R σ en1 (match en1[i]? with | some (some _) => .ok (.p i) en1 | _ => .bad) _
      rw [e]
      intro v H2 G2 s2 k2 S2 o2
      have o2 : σ[i]? = some (some v) := o2
      rw [f1] at o2; cases o2
      refine rd.mk S2 (PstS.bindE (PstS.weak (r := (argOf ix' (evE U.C U.md ix' en1) en1).bind _) q1 s2 (Keep.refl _ _)) fun av2 en3 u H3 G3 _ s3 k3 S3 o3 q3 => ?_)
      have fin := PstS.bindE (ok1 := okV Y) (Q1 := fun _ H4 => D1.nx σ H4) q3 fun _ en4 _ H4 G4 _ s4 k4 S4 _ q4 => PstS.now S4 q4
      obtain ⟨a', vs0, xs, ds, d', res, ea, g1, g2, g3, g4, g5⟩ := mt_fin S3 f1 (vs := [w, u]) (avs := [av1, av2]) ⟨Aok.mono (en := en1) (en' := en3) (Aok.mono (en' := en1) o1 s2) s3, o3, trivial⟩ fin
      cases ea
      match ds, g4 with
      | [y, .int k], g4 =>
        obtain ⟨v1, v2, ev, r1, r2⟩ := repL2 g3
        cases ev
        cases r2
        have g4 : (match ixN xs.length k with | some k => some (D.lst (xs.set k y), D.non) | none => none) = some (d', res) := g4
        split at g4
        · rename_i kk ek
          cases g4
          exact ⟨a, vs0, k, kk, rfl, rfl, g1, by rw [g2.length]; exact ek, g5 _ _ _ rfl (g2.set kk r1) .non⟩
        · cases g4
      | [], g4 => cases g4
      | [_], g4 => cases g4
      | [_, .non], g4 | [_, .bl _], g4 | [_, .lst _], g4 | [_, .str _], g4 | [_, .tup _], g4 | [_, .fls _], g4 | [_, .dct _ _], g4 | [_, .set _], g4 | [_, .obj _ _ _], g4 | [_, .exc _ _ _], g4 | [_, .thk _ _], g4 => cases g4
      | _ :: z :: _ :: _, g4 => cases z <;> cases g4
    · cases hat
  · exact q1.elim
end
end L3

/-! L3L: order of tuples within tuples; list.count, list.index. -/
namespace L3
open PySem PySem.Spec PyProof.Rows L2
section
variable {X : Cx} {Y : Wd} {W : WX} {U : Ev} {pins : List (Addr × Obj)} {σ : L2.St} {G R H : Hp} {s : Shared}
def eF (xs ys : List D) (j : Nat) : Bool := match xs[j]?, ys[j]? with
  | some x, some y => (eqD x y).getD false | _, _ => false
def rF (f : D → D → Option Bool) (xs ys : List D) (j : Nat) : Bool := match xs[j]?, ys[j]? with
  | some x, some y => (f x y).getD false | _, _ => false
theorem lex_shift {e r : Nat → Bool} {z : Bool} : ∀ (k i : Nat), Ob.lexAt (fun j => e (j + 1)) (fun j => r (j + 1)) z i k = Ob.lexAt e r z (i + 1) k
  | 0, _ => rfl
  | k + 1, i => by rw [Ob.lexAt_succ, Ob.lexAt_succ, lex_shift k (i + 1)]
theorem ltL_lex {f : D → D → Option Bool} : ∀ {xs ys : List D} {b : Bool}, ltL f xs ys = some b → Ob.lexAt (eF xs ys) (rF f xs ys) (decide (xs.length < ys.length)) 0 (min xs.length ys.length) = b ∧
    ∀ (j : Nat) (x y : D), xs[j]? = some x → ys[j]? = some y → eqD x y = some (eF xs ys j) ∧ (eF xs ys j = false → f x y = some (rF f xs ys j))
  | [], ys, b, h => by
    cases h
    refine ⟨?_, fun j x y e => by simp at e⟩
    show Ob.lexAt _ _ _ 0 (min 0 ys.length) = _
    rw [Nat.zero_min]
    cases ys <;> rfl
  | x :: xs, [], b, h => by
    cases h
    exact ⟨rfl, fun j x y _ e => by simp at e⟩
  | x :: xs, y :: ys, b, h => by
    have sh1 : ∀ j, eF (x :: xs) (y :: ys) (j + 1) = eF xs ys j := fun j => by simp [eF]
    have sh2 : ∀ j, rF f (x :: xs) (y :: ys) (j + 1) = rF f xs ys j := fun j => by simp [rF]
    have e0 : eF (x :: xs) (y :: ys) 0 = (eqD x y).getD false := rfl
    have r0 : rF f (x :: xs) (y :: ys) 0 = (f x y).getD false := rfl
    have hmin : min (x :: xs).length (y :: ys).length = min xs.length ys.length + 1 := by simp [Nat.succ_min_succ]
    have hd : decide ((x :: xs).length < (y :: ys).length) = decide (xs.length < ys.length) := by simp
    have hs : Ob.lexAt (eF (x :: xs) (y :: ys)) (rF f (x :: xs) (y :: ys)) (decide (xs.length < ys.length)) 1 (min xs.length ys.length) = Ob.lexAt (eF xs ys) (rF f xs ys) (decide (xs.length < ys.length)) 0 (min xs.length ys.length) := by
      rw [← lex_shift (e := eF (x :: xs) (y :: ys)) (r := rF f (x :: xs) (y :: ys))]
      congr 1
    simp only [ltL] at h
    cases q1 : eqD x y with
    | none => rw [q1] at h; cases h
    | some t =>
      cases q2 : ltL f xs ys with
      | none => rw [q1, q2] at h; cases t <;> cases h
      | some r =>
        rw [q1, q2] at h
        obtain ⟨i1, i2⟩ := ltL_lex q2
        rw [hmin, hd, Ob.lexAt_succ, e0, q1, r0, hs, i1]
        refine ⟨?_, fun j x' y' ex ey => ?_⟩
        · cases t with
          | true => cases h; rfl
          | false =>
            have h : f x y = some b := h
            rw [h]; rfl
        · cases j with
          | zero =>
            simp at ex ey
            subst ex ey
            rw [e0, r0, q1]
            refine ⟨rfl, fun z => ?_⟩
            have z : t = false := z
            subst z
            have h : f x y = some b := h
            rw [h]; rfl
          | succ j =>
            rw [sh1, sh2]
            exact i2 j x' y' (by simpa using ex) (by simpa using ey)
theorem vals_at : ∀ {vs : List V} {us : List Value} {j : Nat} {u : Value}, Vals vs us → us[j]? = some u → ∃ v, vs[j]? = some v ∧ RelV v u
  | [], _, _, _, .nil, e => by simp at e
  | _ :: _, _, 0, _, .cons r _, e => by simp at e; subst e; exact ⟨_, rfl, r⟩
  | _ :: _, _, j + 1, _, .cons _ t, e => by
    simp at e
    obtain ⟨v, h1, h2⟩ := vals_at t e
    exact ⟨v, by simpa using h1, h2⟩
theorem eq_at (hK : X.K = Y.K) (I : Inv X pins σ H s) (gH : Same G H) {A : Around} {d e : D} {x y : V} {v u : Value} {b : Bool} (hu : A.units + 64 < cLine) (h1 : Rep Y G x d) (h2 : Rep Y G y e) (r1 : RelV x v) (r2 : RelV y u) (q : eqD d e = some b) : SeqAt.EqAt A s v u b := by
  obtain ⟨p, p', e1, e2, s1, s2, rfl⟩ := eqD_some q
  obtain ⟨as, a1⟩ := Dp.reads I p x v (h1.dp hK gH e1) r1
  obtain ⟨bs, a2⟩ := Dp.reads I p' y u (h2.dp hK gH e2) r2
  exact SeqAt.eqAt_reads p p' A s v u as bs a1 a2 (SeqAt.canLay_of_shaped s1) (SeqAt.canLay_of_shaped s2) (SeqAt.room_of_shaped s1 hu)
theorem lt_rc (hK : X.K = Y.K) (I : Inv X pins σ H s) (gH : Same G H) : ∀ (n : Nat) {A : Around} {d e : D} {x y : V} {v u : Value} {b : Bool}, A.units + n + 66 < cLine → Rep Y G x d → Rep Y G y e → RelV x v → RelV y u → ltD n d e = some b → Ob.RcOp .Lt A s v u b := by
  have base : ∀ {A : Around} {d e : D} {x y : V} {v u : Value} {b : Bool}, Rep Y G x d → Rep Y G y e → RelV x v → RelV y u → ltI d e = some b → Ob.RcOp .Lt A s v u b := fun {A d e x y v u b} h1 h2 r1 r2 q => by
    unfold ltI at q
    split at q
    · cases q
      cases h1; cases h2
      obtain ⟨t1, rfl⟩ := r1
      obtain ⟨t2, rfl⟩ := r2
      exact Ob.RcOp.lt_int _ _ _ _
    · cases q
  intro n
  induction n with
  | zero => intro A d e x y v u b hu h1 h2 r1 r2 q; exact base h1 h2 r1 r2 q
  | succ n ih =>
    intro A d e x y v u b hu h1 h2 r1 r2 q
    simp only [ltD] at q
    split at q
    · rename_i xs ys
      cases h1 with | tup g1 g2 =>
      cases h2 with | tup k1 k2 =>
      cases r1
      cases r2
      have g1 := Same.seqT gH g1
      have k1 := Same.seqT gH k1
      rw [← hK] at g1 k1
      obtain ⟨its, w1, p1, _⟩ := I.tuple g1
      obtain ⟨its2, w2, p2, _⟩ := I.tuple k1
      obtain ⟨h3, h4⟩ := ltL_lex q
      have l1 : its.toArray.size = xs.length := by rw [List.size_toArray, ← w1.length, g2.length]
      have l2 : its2.toArray.size = ys.length := by rw [List.size_toArray, ← w2.length, k2.length]
      have at_ : ∀ (j : Nat) (h1 : j < its.toArray.size) (h2 : j < its2.toArray.size), ∃ x y d e, RelV x its.toArray[j] ∧ RelV y its2.toArray[j] ∧ Rep Y G x d ∧ Rep Y G y e ∧ xs[j]? = some d ∧ ys[j]? = some e := fun j h1 h2 => by
        have e1 : its[j]? = some its.toArray[j] := by
          rw [List.getElem?_eq_getElem (by simpa using h1)]; simp
        have e2 : its2[j]? = some its2.toArray[j] := by
          rw [List.getElem?_eq_getElem (by simpa using h2)]; simp
        obtain ⟨x, f1, f2⟩ := vals_at w1 e1
        obtain ⟨y, f3, f4⟩ := vals_at w2 e2
        obtain ⟨d, f5, f6⟩ := g2.getV f1
        obtain ⟨e, f7, f8⟩ := k2.getV f3
        exact ⟨x, y, d, e, f2, f4, f6, f8, f5, f7⟩
      have := Ob.RcOp.tuples_lt (A := A) (e := eF xs ys) (r := rF (ltD n) xs ys) p1 p2 (by omega) (fun j h1 h2 => by
        obtain ⟨x, y, d, e, a1, a2, a3, a4, a5, a6⟩ := at_ j h1 h2
        exact eq_at hK I gH (by show A.units + 1 + 64 < cLine; omega) a3 a4 a1 a2 (h4 j d e a5 a6).1) fun j h1 h2 hz => by
        obtain ⟨x, y, d, e, a1, a2, a3, a4, a5, a6⟩ := at_ j h1 h2
        exact ih (by show A.units + 1 + n + 66 < cLine; omega) a3 a4 a1 a2 ((h4 j d e a5 a6).2 hz)
      rw [l1, l2, h3] at this
      exact this
    · exact base h1 h2 r1 r2 q
def rLtX (Y : Wd) : R2 := fun x y H Q => ∃ (G : Hp) (d e : D) (b : Bool), Same G H ∧ Rep Y G x d ∧ Rep Y G y e ∧ ltD 3 d e = some b ∧ Q (.bl b) H
theorem op_ltX (hK : X.K = Y.K) (hu : X.A.units + 69 < cLine) : OpR X (compareOp .Lt) (rLtX Y) := by
  intro pins s σ H x y v u Q I rx ry ⟨G, d, e, b, gH, h1, h2, h3, q⟩
  exact lt_rc hK I gH 3 hu h1 h2 rx ry h3 _ _ _ _ ⟨.bl b, H, I, rfl, q⟩
theorem p_lt : P2 Y W .lt (rLtX Y) := .mk fun G R H σ en x y ds p Q S hp e pq => by
  match ds, hp, e with
  | [d, d'], hp, e =>
    obtain ⟨k1, k2, _⟩ := hp
    have fin : ∀ {b : Bool}, ltD 3 d d' = some b → p = (.bl b, false) → Rep Y G x d → Rep Y G y d' → rLtX Y x y H Q := fun {b} h1 h2 h3 h4 => by
      subst h2
      exact ⟨G, d, d', b, S.gH, h3, h4, h1, fin_sh S pq (.bl _)⟩
    have nm : ∀ {v : V} {d : D}, Pk Y G H v d → (∀ xs, d ≠ .lst xs) → (∀ ks xs, d ≠ .dct ks xs) → (∀ c ns xs, d ≠ .obj c ns xs) → Rep Y G v d := fun h a b c => by
      rcases h with h | ⟨_, _, t⟩
      · exact h
      · cases t <;> first | exact absurd rfl (a _) | exact absurd rfl (b _ _) | exact absurd rfl (c _ _ _)
    cases d with
    | int i =>
      cases d' with
      | int j =>
        cases e
        exact fin rfl rfl (nm k1 (by simp) (by simp) (by simp)) (nm k2 (by simp) (by simp) (by simp))
      | _ => cases e
    | tup xs =>
      cases d' with
      | tup ys =>
        obtain ⟨b, e1, e2⟩ := oB_some (show oB (ltD 3 (.tup xs) (.tup ys)) = some p from e)
        exact fin e1 e2 (nm k1 (by simp) (by simp) (by simp)) (nm k2 (by simp) (by simp) (by simp))
      | _ => cases e
    | _ => cases e
  | [], hp, _ => exact hp.elim
  | [_], hp, _ => exact hp.2.elim
  | _ :: _ :: _ :: _, hp, _ => exact hp.2.2.elim
end
end L3

/-! L3M: list.count, list.index; raise; the exception that is looked at. -/
namespace L3
open PySem PySem.Spec PyProof.Rows L2
section
variable {X : Cx} {Y : Wd} {W : WX} {U : Ev}
/-! ### l.count(x), l.index(x) -/
def rCntD (K : PySem.W.Frag) : V → List V → Hp → VK → Prop := fun x xs H Q => ∃ (a : Addr) (y : V) (q : PyData) (qs : List PyData), x = V.ref a ∧ xs = [y] ∧ Dp K H (V.ref a) (.list qs) ∧ Dp K H y q ∧
  SeqAt.shaped (.list qs) = true ∧ SeqAt.shaped q = true ∧ Q (.int ((qs.countP fun z => PyData.eqv z q : Nat) : Int)) H
theorem mt_countD (hu : X.A.units + 65 < cLine) : MtR X "list.count" (rCntD X.K) := by
  intro pins s σ H x xs v us Q I rx rxs h
  obtain ⟨a, y, d, ds, rfl, rfl, hl, hy, sl, sd, q⟩ := h
  cases rx
  cases rxs with
  | cons ry rt =>
    rename_i uy ut
    cases rt
    obtain ⟨bs, r1⟩ := Dp.reads I d y uy hy ry
    have hxs : PyData.canLayAll0 ds = true := SeqAt.canLay_of_shaped sl
    have hroom : X.A.units + 1 + min (PyData.depthAll ds) d.depth < cLine := room_in_shaped sd hu
    cases hl with
    | lst hs ha =>
      obtain ⟨its, rv, ⟨⟨cls, dd, data, sls⟩, n, ho, hc, hdn, hdt⟩, hlen⟩ := I.list hs
      simp only at hc hdt
      subst hc hdt
      obtain ⟨as, h4⟩ := Dp.readsAll I ds _ its ha rv
      refine call_meets PySem.F.slot_list_count ⟨_, ho, rfl⟩ PySem.F.entry_list_count (PySem.F.args_list_count_2 _ _)
        (SeqAt.list_countAt a its.toArray n dd sls uy (fun u => PyData.eqv (SeqAt.readOf s.heap u) d)) ⟨ho, SeqAt.items_eqAt (vs := its.toArray) (show ReadsAll s.heap its.toArray.toList ds as from h4) r1 hxs (SeqAt.canLay_of_shaped sd) hroom, ?_⟩
      refine ⟨.int _, H, I.tok _, ⟨s.toks, ?_⟩, q⟩
      have e1 : (its.toArray.toList.countP fun u => PyData.eqv (SeqAt.readOf s.heap u) d) = ds.countP fun z => PyData.eqv z d := by
        rw [← SeqAt.readsAll_map ds its as hxs h4, List.countP_map]
        rfl
      rw [e1]
theorem idxP_some {q : PyData} : ∀ {qs : List PyData} {j : Nat}, idxP qs q = some j → ∃ z, qs[j]? = some z ∧ PyData.eqv z q = true ∧ ∀ (m : Nat) (z' : PyData), m < j → qs[m]? = some z' → PyData.eqv z' q = false
  | [], j, e => by cases e
  | z :: r, j, e => by
    simp only [idxP] at e
    split at e
    · rename_i h
      cases e
      exact ⟨z, rfl, h, fun m z' hm => absurd hm (Nat.not_lt_zero _)⟩
    · rename_i h
      cases h2 : idxP r q with
      | none => rw [h2] at e; cases e
      | some k =>
        rw [h2] at e
        cases e
        obtain ⟨z1, e1, e2, e3⟩ := idxP_some h2
        refine ⟨z1, by simpa using e1, e2, fun m z' hm hz => ?_⟩
        have hm : m < k + 1 := hm
        cases m with
        | zero => simp at hz; subst hz; simpa using h
        | succ m => exact e3 m z' (by omega) (by simpa using hz)
theorem mth_core {o : Op} {x' y' : E} {r : V → List V → Hp → VK → Prop} {σ : L2.St} {H : Hp} {Q : VK} (hk : o.keeps = false)
    (h : ∀ (G R H : Hp) (σ : L2.St) (en : En) (x y : V) (ds : List D) (p : D × Bool) (Q : VK), Sep Y G R H σ en → PkL Y G H [x, y] ds → o.run ds = some p → Pst Y W (okV Y) G R σ en (.ok p en) Q → r x [y] H Q)
    (h1 : rdE Y W U (.mth o x' y') σ H Q) : rdX Y W U x' σ H fun x H1 => tyV X.K "list" x H1 ∧ rdX Y W U y' σ H1 fun y H2 => r x [y] H2 Q := by
  obtain ⟨G, R, en, S, p⟩ := h1
  refine ⟨G, R, en, S, ?_⟩
  rw [evE] at p
  refine Pst.bind p fun av en1 v H1 G1 _ s1 k1 S1 o1 p1 => ?_
  split at p1
  · rename_i hat
    cases q : avD en1 av with
    | none => rw [q] at hat; cases hat
    | some d =>
      rw [q] at hat
      have hat : mtPre d = true := hat
      cases d with
      | lst ds =>
        obtain ⟨a, vs, rfl, g1, g2⟩ := (pk_of S1 o1 q).lst S1
        refine ⟨.inl ⟨rfl, vs, .inl (.inl g1)⟩, rd.mk S1 (Pst.bind p1 fun av2 en2 w H2 G2 _ s2 k2 S2 o2 p2 => ?_)⟩
        unfold opFin at p2
        rw [hk] at p2
        split at p2
        · exact p2.elim
        · rename_i ds e
          split at p2
          · rename_i qq e2
            exact h G2 R H2 σ en2 _ _ ds qq Q S2 (pkL_of S2 (vs := [.ref a, w]) (as := [av, av2]) ⟨Aok.mono (en := en1) (en' := en2) o1 s2, o2, trivial⟩ e) e2 p2
          · exact p2.elim
      | _ => cases hat
  · exact p1.elim
theorem cnt_sp (hK : X.K = Y.K) (G R H : Hp) (σ : L2.St) (en : En) (x y : V) (ds : List D) (p : D × Bool) (Q : VK) (S : Sep Y G R H σ en) (hp : PkL Y G H [x, y] ds) (e : Op.count.run ds = some p) (pq : Pst Y W (okV Y) G R σ en (.ok p en) Q) : rCntD X.K x [y] H Q := by
  match ds, hp, e with
  | [d, d'], hp, e =>
    obtain ⟨k1, k2, _⟩ := hp
    have e : (match toPy d, toPy d' with
      | some (.list qs), some q => if SeqAt.shaped (.list qs) && SeqAt.shaped q then some (D.int ((qs.countP fun z => PyData.eqv z q : Nat) : Int), false) else none
      | _, _ => none) = some p := e
    split at e
    · rename_i qs q e1 e2
      split at e
      · rename_i hs
        obtain ⟨h1, h2⟩ := Bool.and_eq_true_iff.mp hs
        cases e
        have dx := k1.dp hK S e1
        have ex : ∃ a, x = .ref a := by cases dx; exact ⟨_, rfl⟩
        obtain ⟨a, rfl⟩ := ex
        exact ⟨a, y, q, qs, rfl, rfl, dx, k2.dp hK S e2, h1, h2, fin_sh S pq (.int _)⟩
      · cases e
    · cases e
  | [], hp, _ => exact hp.elim
  | [_], hp, _ => exact hp.2.elim
  | _ :: _ :: _ :: _, hp, _ => exact hp.2.2.elim
theorem idx_sp (hK : X.K = Y.K) (G R H : Hp) (σ : L2.St) (en : En) (x y : V) (ds : List D) (p : D × Bool) (Q : VK) (S : Sep Y G R H σ en) (hp : PkL Y G H [x, y] ds) (e : Op.index.run ds = some p) (pq : Pst Y W (okV Y) G R σ en (.ok p en) Q) : rIndexD X.K x [y] H Q := by
  match ds, hp, e with
  | [d, d'], hp, e =>
    obtain ⟨k1, k2, _⟩ := hp
    have e : (match toPy d, toPy d' with
      | some (.list qs), some q => if SeqAt.shaped (.list qs) && SeqAt.shaped q then oI ((idxP qs q).map fun n => (n : Int)) else none
      | _, _ => none) = some p := e
    split at e
    · rename_i qs q e1 e2
      split at e
      · rename_i hs
        obtain ⟨h1, h2⟩ := Bool.and_eq_true_iff.mp hs
        cases q3 : idxP qs q with
        | none => rw [q3] at e; cases e
        | some j =>
          rw [q3] at e
          cases e
          obtain ⟨z, z1, z2, z3⟩ := idxP_some q3
          have dx := k1.dp hK S e1
          have ex : ∃ a, x = .ref a := by cases dx; exact ⟨_, rfl⟩
          obtain ⟨a, rfl⟩ := ex
          exact ⟨a, y, q, qs, j, z, rfl, rfl, dx, k2.dp hK S e2, h1, h2, z1, z2, z3, fin_sh S pq (.int _)⟩
      · cases e
    · cases e
  | [], hp, _ => exact hp.elim
  | [_], hp, _ => exact hp.2.elim
  | _ :: _ :: _ :: _, hp, _ => exact hp.2.2.elim
variable {o e a : Expr} {x' y' a' : E} {p apos pos cpos : Pos} {x : Str}
theorem pa_one {t : TE} (h : PE X e t) (hs : starEach [e] X.env = (false, eval e X.env) :: starEach [] X.env := by rfl) : PA X [e] (fun σ H Q => t σ H fun v H1 => Q [v] H1) := pa_cons h pa_nil hs
theorem s_count (hK : X.K = Y.K) (hu : X.A.units + 65 < cLine) (ho : PE X o (rdX Y W U x')) (ha : PE X e (rdX Y W U y')) (hbase : attributeBase o "count" X.env (eval o X.env) = eval o X.env := by rfl) (hline : (apos.endLine == cpos.line) = true := by rfl)
    (hs : starEach [e] X.env = (false, eval e X.env) :: starEach [] X.env := by rfl) : PE X (.Call (.Attribute o "count" apos) [e] [] cpos) (rdE Y W U (.mth .count x' y')) :=
  (pe_bm PySem.F.plainAttrs_list PySem.F.slot_list_count PySem.F.type_list_count (mt_countD hu) ho (pa_one ha hs) hbase (by rw [hs]; rfl) hline hs rfl).imp fun _ _ _ q => mth_core (X := X) rfl (cnt_sp hK) q
theorem s_index (hK : X.K = Y.K) (hu : X.A.units + 65 < cLine) (ho : PE X o (rdX Y W U x')) (ha : PE X e (rdX Y W U y')) (hbase : attributeBase o "index" X.env (eval o X.env) = eval o X.env := by rfl) (hline : (apos.endLine == cpos.line) = true := by rfl)
    (hs : starEach [e] X.env = (false, eval e X.env) :: starEach [] X.env := by rfl) : PE X (.Call (.Attribute o "index" apos) [e] [] cpos) (rdE Y W U (.mth .index x' y')) :=
  (pe_bm PySem.F.plainAttrs_list PySem.F.slot_list_index PySem.F.type_list_index (mt_indexD hu) ho (pa_one ha hs) hbase (by rw [hs]; rfl) hline hs rfl).imp fun _ _ _ q => mth_core (X := X) rfl (idx_sp hK) q
/-! ### raise C(), raise C(e) -/
theorem pmk_own0 {C : Addr} {bmB : List Value} {B newId initId : String} (F : ExcBaseFacts B newId initId bmB) (q : PySem.W.excIn X.K C bmB newId = true) (gC : X.mg x = some (.ref C)) (kC : PySem.W.keepIn X.K (.ref C) = true) (r : Raises X (.ref C)) (hg : Gl X x) (hdb : (x == ("__debug__" : Str)) = false := by decide) :
    PMk X (.Call (.Name x p) [] [] pos) (fun σ H Q => Q (.ref C) none H) := by
  intro pins s σ H Q I h
  refine wpAny_Call_Name_kw (ld_glob I hg gC ?_ hdb)
  refine PySem.W.callWith_K0 I.kIn kC ?_
  show wpAny _ _ (call (.ref C) []) _ _ _
  obtain ⟨bm, N, nm, qn, bs, hdct, sn, sub, ab, col, dd, k0, k1, k2, k3, k5, mN, hC, hN, hni, T⟩ := exc_obj I.kIn q
  refine wpAny_call_exc_subT F T hC hN hni (fun h' e hm => ?_) (Nat.zero_le _)
  exact mk_of I hm r h (I.hok.gone hm.new)
/-- an own exception class without own __init__ -/
structure Exc0 (X : Cx) (Y : Wd) (x : Str) (c : Nat) : Prop where
  at_ : X.mg x = some (.ref (Y.ca c))
  q : PySem.W.excIn X.K (Y.ca c) [.type "ValueError", .type "Exception", .type "BaseException", .type "object"] "ValueError.__new__" = true
  k : PySem.W.keepIn X.K (.ref (Y.ca c)) = true
  b : PySem.W.subIn X.K (.ref (Y.ca c)) (.type "BaseException") = some true
  t : PySem.W.typeIn X.K (.ref (Y.ca c)) = some (.type "type")
  xk : Y.xk c
theorem st_rse0 {c : Nat} (hc : X.calm = true) (tk : Takes X W) (F : Exc0 X Y x c) (hg : Gl X x := by rfl) (hdb : (x == ("__debug__" : Str)) = false := by decide) : PS X (.Raise (some (.Call (.Name x p) [] [] pos)) none cpos) (rdS Y W U (.rse c [] .nil)) :=
  (ps_raise hc tk (pmk_own0 PySem.F.excBase_ValueError F.q F.at_ F.k (raises_own F.b F.t) hg hdb)).imp fun D σ H ⟨G, R, en, S, q⟩ => by
    rw [evS, evA] at q
    exact q _ _ σ H G (Same.refl _) (Keep.refl _ _) S ⟨F.xk, rfl, .inl ⟨rfl, rfl, rfl⟩⟩
/-- what an __init__(self, at): self.f = at keeps -/
def spI (C : Addr) (f : Str) : Sp := fun vs H Q E => ∃ (a : Addr) (y : V), vs = [.ref a, y] ∧ H a = some (exo a C none) ∧ ∀ dx, H dx = none → dx ≠ a → Q .non (upd (upd H dx (exd dx [(f, y)])) a (exo a C (some dx)))
structure Exc1 (X : Cx) (Y : Wd) (x : Str) (c : Nat) (f : Str) (k : Nat) (fI : Addr) (fd : FuncData) (ps : List Str) : Prop where
  at_ : X.mg x = some (.ref (Y.ca c))
  T : OexC X.K (Y.ca c)
  iC : PySem.W.findIn X.K (.ref (Y.ca c)) "__init__" = some (some (.ref fI))
  tI : PySem.W.typeIn X.K (.ref fI) = some (.type "function")
  F : FnOk X.prog X.w X.K X.mg X.base (L2.CX X.prog X.w) k fI fd ps (spI (Y.ca c) f)
  hb : Binds X.K fd ps []
  xk : Y.xk c
theorem st_rse1 {c k : Nat} {f : Str} {fI : Addr} {fd : FuncData} {ps : List Str} (hc : X.calm = true) (tk : Takes X W) (F : Exc1 X Y x c f k fI fd ps) (hr : Room (k + 1) X.A) (ha : PE X e (rdX Y W U a')) (hm : ∀ i, a' ≠ .pk i := by intro i z; cases z) (hg : Gl X x := by rfl) (hdb : (x == ("__debug__" : Str)) = false := by decide)
    (hs : starEach [e] X.env = (false, eval e X.env) :: starEach [] X.env := by rfl) : PS X (.Raise (some (.Call (.Name x p) [e] [] pos)) none cpos) (rdS Y W U (.rse c [f] (.cons a' .nil))) :=
  (ps_raise hc tk (pmk_oex F.T F.iC F.tI F.F hr F.hb .nil (passes_call LamX.takes0 (fun _ _ _ _ z => z)) hg F.at_ (pa_one ha hs) hdb hs rfl)).imp fun D σ H ⟨G, R, en, S, q⟩ => by
    refine ⟨G, R, en, S, ?_⟩
    rw [evS, evA_cons, Rs.bind_assoc] at q
    refine PstS.bindE q fun av en1 v H1 G1 _ s1 k1 S1 o1 q1 => ?_
    rw [evA] at q1
    refine ⟨(by decide : 1 ≤ 1000), fun a na => ?_⟩
    refine ⟨a, v, rfl, upd_same, fun dx nd hda => ?_⟩
    have ndx : H1 dx = none := by rw [upd_ne hda] at nd; exact nd
    refine ⟨rfl, dx, [(f, v)], upd_same, by rw [upd_ne hda]; exact upd_same, ndx, ?_⟩
    have eH : upd (del (upd (upd (upd H1 a (exo a (Y.ca c) none)) dx (exd dx [(f, v)])) a (exo a (Y.ca c) (some dx))) a) dx (.xd [(f, v)]) = upd H1 dx (.xd [(f, v)]) := by
      funext b
      by_cases hb : b = dx
      · subst hb; rw [upd_same, upd_same]
      · rw [upd_ne hb, upd_ne hb]
        by_cases hba : b = a
        · subst hba; rw [del_same, na]
        · rw [del_ne hba, upd_ne hba, upd_ne hb, upd_ne hba]
    rw [eH]
    cases av with
    | p i => exact q1.elim
    | v d =>
      have r : Rep Y G1 v d := o1
      have q1 : PstS Y W G1 R σ en1 (.er ⟨c, [f], [d]⟩ en1) D := q1
      have sg : Same G1 (upd G1 dx (.xd [(f, v)])) := same_new (S1.gnone ndx)
      exact q1 _ _ σ _ _ sg (Keep.refl _ _) (S1.newG ndx) ⟨F.xk, rfl, .inr ⟨dx, [(f, v)], rfl, upd_same, rfl, .cons (r.mono sg) .nil⟩⟩
/-! ### the exception that is looked at -/
/-- the world of an except suite: a the exception, cls its class, dd its dict -/
abbrev Wd.su (Y : Wd) (a : Addr) (cls : Value) (dd : Option Addr) : Wd := { Y with ex := fun a' c d => a' = a ∧ Y.xk c ∧ cls = .ref (Y.ca c) ∧ d = dd }
/-- isinstance(e, c), e the exception that the suite holds, with or without a dict -/
def rIsX (K : PySem.W.Frag) (D a : Addr) (dd : Option Addr) : List V → Hp → VK → Prop := fun xs H Q => ∃ (c : V) (cv : Value) (b : Bool), xs = [.ref a, c] ∧ (∀ u, RelV c u → u = cv) ∧ PySem.W.kitOne K (.ref D) cv = some b ∧ (∀ da, dd = some da → ∃ fs, H da = some (.xd fs)) ∧ Q (.bl b) H
theorem call_isX {a D : Addr} {oe : Obj} {pn : List (Addr × Obj)} {dd : Option Addr} (C : ExcC X.K D) (hz : Zc (.ref D) dd oe) (hf : ∃ vs, oe.data = .fields vs) : CallR (X.suite a ((a, oe) :: pn)) (.builtin "isinstance") (rIsX X.K D a dd) := by
  intro pins s σ H xs us Q I r h
  obtain ⟨c, cv, b, rfl, hcv, e, hd, q⟩ := h
  cases r with
  | cons rx rr =>
    cases rr with
    | cons rt rr =>
      cases rr
      cases rx
      have ec := hcv _ rt
      subst ec
      obtain ⟨hget, _⟩ := I.pin (a, oe) (List.mem_append.mpr (.inl List.mem_cons_self))
      obtain ⟨vs, hv⟩ := hf
      have J : ∃ od, PySem.W.InstAt s.heap a oe D od := by
        cases dd with
        | none =>
          obtain ⟨oc, od, oda, osl⟩ := oe
          obtain ⟨h1, h2⟩ := hz
          dsimp only at h1 h2 hv
          subst h1 h2 hv
          exact ⟨none, hget, rfl, rfl, trivial⟩
        | some da =>
          obtain ⟨fs, hx⟩ := hd da rfl
          have hx : ObjOk X.prog X.w H s.heap da (.xd fs) := I.hok da _ hx
          obtain ⟨mA, hns, hr⟩ := hx
          obtain ⟨od, ho, hl⟩ := lookIn_ns hns
          exact ⟨some od, hget, hz.1, by unfold PySem.W.notCls; rw [hv] <;> rfl, by rw [hz.2]; exact ho⟩
      obtain ⟨od, J⟩ := J
      have hcl : (PySem.W.clsIn X.K D).isSome = true := by
        obtain ⟨cd, hc, _⟩ := PySem.W.any_some C.hd
        rw [hc]; rfl
      exact PySem.W.kia_one (PySem.W.kitx_exc hcl C.hg C.hk C.hs C.ha C.hn C.ht C.hm) I.kIn J e (fun z => nomatch z) fun tk => ⟨.bl b, H, I.kept (t' := tk) fun _ _ z => z, rfl, q⟩
/-- what the classes of the program's exceptions say -/
structure XcC (Y : Wd) (K : PySem.W.Frag) : Prop where
  i : ∀ c, Y.xk c → ExcC K (Y.ca c)
  x : ∀ c, Y.xk c → XfC K (Y.ca c)
variable {a : Addr} {cls : Value} {dd : Option Addr} {oe : Obj} {pn : List (Addr × Obj)}
theorem s_isx {cs : List Nat} {cv : V} {u : Value} {tc : Expr} (I : XcC Y X.K) (hz : Zc cls dd oe) (hf : ∃ vs, oe.data = .fields vs) (hm : X.mg "isinstance" = none) (hcv : ∀ w, RelV cv w → w = u) (hk : ∀ c, Y.xk c → PySem.W.kitOne X.K (.ref (Y.ca c)) u = some (cs.contains c))
    (htc : PE (X.suite a ((a, oe) :: pn)) tc (tC cv)) (ha : PE (X.suite a ((a, oe) :: pn)) e (rdX (Y.su a cls dd) W U a')) (hg : Gl X "isinstance" := by rfl)
    (he : starEach (e :: [tc]) X.env = (false, eval e X.env) :: starEach [tc] X.env := by rfl) (he2 : starEach (tc :: []) X.env = (false, eval tc X.env) :: starEach [] X.env := by rfl) (hpl : (backTo pos (starEach [tc] X.env)).any (·.1) = false := by rfl) :
    PE (X.suite a ((a, oe) :: pn)) (.Call (.Name "isinstance" p) [e, tc] [] pos) (rdE (Y.su a cls dd) W U (.op (.isx cs) (.cons a' .nil))) := by
  have hcall : CallR (X.suite a ((a, oe) :: pn)) (.builtin "isinstance") (fun xs H Q => ∃ c, Y.xk c ∧ cls = .ref (Y.ca c) ∧ rIsX X.K (Y.ca c) a dd xs H Q) := fun pins s σ H xs us Q J r ⟨c, h1, h2, h3⟩ => by
    subst h2
    exact call_isX (I.i c h1) hz hf pins s σ H xs us Q J r h3
  refine (pe_callB (X := X.suite a ((a, oe) :: pn)) hcall hg hm (by decide +kernel) (pa_cons (X := X.suite a ((a, oe) :: pn)) ha (pa_cons (X := X.suite a ((a, oe) :: pn)) htc pa_nil he2) he) (by decide) (by decide) he hpl).imp fun σ H Q ⟨G, R, en, S, p⟩ => ⟨G, R, en, S, ?_⟩
  rw [evE_op1] at p
  refine Pst.bind p fun y en1 v H1 G1 _ s1 k1 S1 o1 p1 => ?_
  unfold opFin at p1
  split at p1
  · exact p1.elim
  · rename_i ds e1
    obtain ⟨d, e2, rfl⟩ := avDs_1 (show avDs en1 [y] = some ds from e1)
    have pk := pk_of S1 o1 e2
    split at p1
    · rename_i q e3
      obtain ⟨d', e4, e5⟩ := a1_some (show a1 (isX cs) [d] = some q from e3)
      cases e4
      have rp : Rep (Y.su a cls dd) G1 v d := by
        rcases pk with h | ⟨_, _, t⟩
        · exact h
        · cases t <;> cases e5
      unfold isX at e5
      split at e5
      · rename_i c ns xs
        cases e5
        cases rp with
        | exc0 h =>
          obtain ⟨rfl, h1, h2, h3⟩ := h
          exact ⟨c, h1, h2, cv, u, _, rfl, hcv, hk c h1, (fun da z => by rw [← h3] at z; cases z), fin_sh S1 p1 (.bl _)⟩
        | exc1 h g1 g2 g3 =>
          obtain ⟨rfl, h1, h2, h3⟩ := h
          exact ⟨c, h1, h2, cv, u, _, rfl, hcv, hk c h1, (fun da z => by rw [← h3] at z; cases z; exact ⟨_, S1.gH _ _ g1⟩), fin_sh S1 p1 (.bl _)⟩
      · cases e5
    · exact p1.elim
theorem s_fldx {f : Str} (hcl : ∃ c, Y.xk c ∧ cls = .ref (Y.ca c)) (I : XcC Y X.K) (hno : ∀ c, Y.xk c → PySem.W.findIn X.K (.ref (Y.ca c)) f = some none) (hz : Zc cls dd oe) (hf : ∃ vs, oe.data = .fields vs) (ha : PE (X.suite a ((a, oe) :: pn)) e (rdX (Y.su a cls dd) W U a'))
    (hb : attributeBase e f X.env (eval e X.env) = eval e X.env := by rfl) : PE (X.suite a ((a, oe) :: pn)) (.Attribute e f pos) (rdE (Y.su a cls dd) W U (.op (.fldx f) (.cons a' .nil))) := by
  obtain ⟨c0, hx0, hc0⟩ := hcl
  refine (pe_xf (I.x c0 hx0) (hno c0 hx0) hz hf ha hb).imp fun σ H Q ⟨G, R, en, S, p⟩ => ⟨G, R, en, S, ?_⟩
  rw [evE_op1] at p
  refine Pst.bind p fun y en1 v H1 G1 _ s1 k1 S1 o1 p1 => ?_
  unfold opFin at p1
  split at p1
  · exact p1.elim
  · rename_i ds e1
    obtain ⟨d, e2, rfl⟩ := avDs_1 (show avDs en1 [y] = some ds from e1)
    have pk := pk_of S1 o1 e2
    split at p1
    · rename_i q e3
      obtain ⟨d', e4, e5⟩ := a1_some (show a1 (fldX f) [d] = some q from e3)
      cases e4
      have rp : Rep (Y.su a cls dd) G1 v d := by
        rcases pk with h | ⟨_, _, t⟩
        · exact h
        · cases t <;> cases e5
      unfold fldX at e5
      split at e5
      · rename_i c ns xs
        split at e5
        · rename_i d2 e6
          cases e5
          cases rp with
          | exc0 h => simp at e6
          | exc1 h g1 g2 g3 =>
            obtain ⟨rfl, h1, h2, h3⟩ := h
            obtain ⟨w, h4, h5⟩ := lookup_rep g2 g3 e6
            exact ⟨rfl, hc0, _, _, w, h3.symm, S1.gH _ _ g1, h4, fin_sh S1 p1 h5⟩
        · cases e5
      · cases e5
    · exact p1.elim
end
end L3

/-! L3N: a lambda handed to a def that calls it within a try. -/
namespace L3
open PySem PySem.Spec PyProof.Rows L2
section
variable {Y : Wd} {G R H : Hp} {σ : L2.St} {en : En} {a : Addr} {cls : Value} {dd : Option Addr}
/-! ### into and out of an except suite's world -/
mutual
theorem Rep.su (hx : ∀ a c d, ¬ Y.ex a c d) : ∀ {d : D} {v : V}, Rep Y G v d → Rep (Y.su a cls dd) G v d
  | .non, _, h => by cases h; exact .non
  | .bl b, _, h => by cases h; exact .bl b
  | .int i, _, h => by cases h; exact .int i
  | .str z, _, h => by cases h; exact .str z
  | .tup ds, _, h => by cases h with | tup h1 h2 => exact .tup h1 (RepL.su hx h2)
  | .lst ds, _, h => by cases h with | lst h1 h2 => exact .lst h1 (RepL.su hx h2)
  | .fls ds, _, h => by cases h with | fls h1 h2 => exact .fls h1 (RepL.su hx h2)
  | .dct ks ds, _, h => by cases h with | dct h1 h2 h3 => exact .dct h1 h2 (RepL.su hx h3)
  | .obj c ns ds, _, h => by cases h with | obj h0 h1 h2 h3 h4 => exact .obj (Y := Y.su a cls dd) h0 h1 h2 h3 (RepL.su hx h4)
  | .set _, _, h => by cases h with | fnv h => exact .fnv (Y := Y.su a cls dd) h
  | .exc _ _ _, _, h => by
    cases h with
    | exc0 h => exact absurd h (hx _ _ _)
    | exc1 h _ _ _ => exact absurd h (hx _ _ _)
  | .thk _ _, _, h => by cases h with | thk h => exact .thk (Y := Y.su a cls dd) h
theorem RepL.su (hx : ∀ a c d, ¬ Y.ex a c d) : ∀ {ds : List D} {vs : List V}, RepL Y G vs ds → RepL (Y.su a cls dd) G vs ds
  | [], _, h => by cases h; exact .nil
  | d :: ds, _, h => by cases h with | cons h1 h2 => exact .cons (Rep.su hx h1) (RepL.su hx h2)
end
mutual
theorem Rep.unsu : ∀ {d : D} {v : V}, noX d = true → Rep (Y.su a cls dd) G v d → Rep Y G v d
  | .non, _, _, h => by cases h; exact .non
  | .bl b, _, _, h => by cases h; exact .bl b
  | .int i, _, _, h => by cases h; exact .int i
  | .str z, _, _, h => by cases h; exact .str z
  | .tup ds, _, n, h => by cases h with | tup h1 h2 => exact .tup h1 (RepL.unsu n h2)
  | .lst ds, _, n, h => by cases h with | lst h1 h2 => exact .lst h1 (RepL.unsu n h2)
  | .fls ds, _, n, h => by cases h with | fls h1 h2 => exact .fls h1 (RepL.unsu n h2)
  | .dct ks ds, _, n, h => by cases h with | dct h1 h2 h3 => exact .dct h1 h2 (RepL.unsu n h3)
  | .obj c ns ds, _, n, h => by cases h with | obj h0 h1 h2 h3 h4 => exact .obj (Y := Y) h0 h1 h2 h3 (RepL.unsu n h4)
  | .set _, _, _, h => by cases h with | fnv h => exact .fnv (Y := Y) h
  | .exc _ _ _, _, n, _ => by cases n
  | .thk _ _, _, _, h => by cases h with | thk h => exact .thk (Y := Y) h
theorem RepL.unsu : ∀ {ds : List D} {vs : List V}, noXs ds = true → RepL (Y.su a cls dd) G vs ds → RepL Y G vs ds
  | [], _, _, h => by cases h; exact .nil
  | d :: ds, _, n, h => by
    cases h with | cons h1 h2 =>
      obtain ⟨n1, n2⟩ := Bool.and_eq_true_iff.mp (show (noX d && noXs ds) = true from n)
      exact .cons (Rep.unsu n1 h1) (RepL.unsu n2 h2)
end
theorem Top.unsu {b : Addr} {d : D} (n : noX d = true) (t : Top (Y.su a cls dd) G H b d) : Top Y G H b d := by
  cases t with
  | lst h q => exact .lst h (RepL.unsu n q)
  | dct h k q => exact .dct h k (RepL.unsu n q)
  | obj h0 h x k q => exact .obj (Y := Y) h0 h x k (RepL.unsu n q)
theorem noX_at (h : en.all noXc = true) {i : Nat} {ow : Ow} {d : D} (e : en[i]? = some (some (ow, d))) : noX d = true := List.all_eq_true.mp h _ (List.mem_of_getElem? e)
theorem Sep.unsu (S : Sep (Y.su a cls dd) G R H σ en) (h : en.all noXc = true) : Sep Y G R H σ en :=
  ⟨S.gH, S.rH, S.gr, S.len, fun i ow d e k => by
    obtain ⟨v, h1, h2⟩ := S.sh i ow d e k
    exact ⟨v, h1, h2.unsu (noX_at h e)⟩, fun i ow d e k => by
    obtain ⟨b, h1, h2⟩ := S.own i ow d e k
    exact ⟨b, h1, h2.g, h2.r, h2.t.unsu (noX_at h e)⟩, S.apart, ⟨S.tb.t, S.tb.g, S.tb.r⟩⟩
/-- nothing in the slots -/
theorem Sep.forget (S : Sep Y G R H σ en) : Sep Y G R H [] [] := S.agree rfl fun i x e => by simp at e
theorem Vok.forget {v : V} {d : D} {own : Bool} (o : Vok Y G R H σ en v d own) : Vok Y G R H [] [] v d own := by
  cases own with
  | false => exact o
  | true =>
    obtain ⟨b, e, w, _⟩ := o
    exact ⟨b, e, w, fun i h => by cases h⟩
/-- shared things in the slots -/
theorem Sep.mkSh (S : Sep Y G R H [] []) (l : σ.length = en.length) (h : ∀ (i : Nat) (ow : Ow) (d : D), en[i]? = some (some (ow, d)) → ow = .sh ∧ ∃ v, σ[i]? = some (some v) ∧ Rep Y G v d) : Sep Y G R H σ en := by
  have no : ∀ i : Nat, isOwnC en[i]? = true → False := fun i e => by
    obtain ⟨ow, d, e1, e2⟩ := isOwnC_get e
    obtain ⟨rfl, _⟩ := h i ow d e1
    cases e2
  exact ⟨S.gH, S.rH, S.gr, l, fun i ow d e _ => (h i ow d e).2, fun i ow d e k => by
    obtain ⟨rfl, _⟩ := h i ow d e
    exact absurd k (by decide), fun i j b e => (no i e).elim, S.tb⟩
theorem Sep.suIn (hx : ∀ a c d, ¬ Y.ex a c d) (S : Sep Y G R H [] []) : Sep (Y.su a cls dd) G R H [] [] :=
  ⟨S.gH, S.rH, S.gr, rfl, fun i ow d e => by simp at e, fun i ow d e => by simp at e, fun i j b e => absurd e (by simp [isOwnC]), ⟨S.tb.t, S.tb.g, S.tb.r⟩⟩
/-! ### the promise of a def that calls what it got -/
def PW (Y : Wd) (G R : Hp) (r : CRes) (Q : VK) : Prop := match r with
  | .ok d own _ => ∀ v H' G', Same G G' → Sep Y G' R H' [] [] → Vok Y G' R H' [] [] v d own → Q v H'
  | _ => False
def TTw (Y : Wd) (f : List (Bool × D) → CRes) : (XK → Hp → VK → Prop) → Hp → VK → Prop := fun tl H Q =>
  tl (fun cls dd H1 => ∃ G1 R1 x, Sep Y G1 R1 H1 [] [] ∧ ExOk Y G1 x cls dd ∧ PW Y G1 R1 (f [(false, .thk false (.exc x.c x.ns x.xs))]) Q) H
    (fun v H1 => ∃ G1 R1 d, Sep Y G1 R1 H1 [] [] ∧ Rep Y G1 v d ∧ PW Y G1 R1 (f [(false, .thk true d)]) Q)
end
section
variable {X : Cx} {Y : Wd} {W : WX} {U : Ev}
abbrev wE (E : XK) : WX := fun cls d _ H => E cls d H
theorem lam_red {f : Nat} {e' : E} {σ : L2.St} {H : Hp} {Q : VK} (h : rdE Y W U (.lam f e') σ H Q) : LamX.tLam Y.T (TTw Y (U.C f)) (fun E => rdE Y (wE E) U e') σ H Q := by
  obtain ⟨G, R, en, S, p⟩ := h
  refine ⟨S.tb.t, fun H1 eN T1 => ?_⟩
  have S1 : Sep Y G R H1 σ en := ⟨fun b o e => eN b o (S.gH b o e) fun ps z => S.tb.g b ps (by rw [e, z]), fun b o e => eN b o (S.rH b o e) fun ps z => S.tb.r b ps (by rw [e, z]), S.gr, S.len, S.sh, fun i ow d e k => by
      obtain ⟨b, h1, h2⟩ := S.own i ow d e k
      obtain ⟨o, h3, m⟩ := h2.t.at
      exact ⟨b, h1, h2.g, h2.r, h2.t.keep (Same.refl _) (by rw [h3]; exact eN b o h3 (notT_mut m))⟩, S.apart, ⟨T1, S.tb.g, S.tb.r⟩⟩
  have fin : ∀ {en' : En} {H2 G2 : Hp} {args : List (Bool × D)}, Same G G2 → Keep σ en σ en' → Sep Y G2 R H2 σ en' →
      Pst Y W (okV Y) G R σ en (match U.C f args with | .ok d own _ => .ok (d, own) en' | _ => .bad) Q → PW Y G2 (restR R H2 σ en' [] []) (U.C f args) Q := fun {en' H2 G2 args} s k S2 p => by
    have P : PassOk Y G2 σ en' [] [] [] := (pass_ok S2 (ms := []) (us := []) (avs := []) (vs := []) rfl trivial).1
    cases q : U.C f args with
    | ok d own outs =>
      rw [q] at p
      intro v H3 G3 s3 S3 o3
      have B : BackOk en' en' [] [] [] := back_ok rfl fun k k' i d d' h => by simp at h
      obtain ⟨h1, h2, h3⟩ := back_sep S2 P s3 S3 B
      exact p v H3 G3 (s.trans s3) (k.trans h2) h1 (h3 v d own o3)
    | er x outs => rw [q] at p; exact p.elim
    | bad => rw [q] at p; exact p.elim
  refine ⟨G, R, en, S1, ?_⟩
  rw [evE] at p
  cases q : evE U.C U.md e' en with
  | bad => rw [q] at p; exact p.elim
  | ok r en' =>
    rw [q] at p
    intro v H2 G2 s2 k2 S2 o2
    obtain ⟨G3, s3, S3, r3⟩ := Vok.share S2 (show Vok Y G2 R H2 σ en' v r.1 r.2 from o2)
    have P : PassOk Y G3 σ en' [] [] [] := (pass_ok S3 (ms := []) (us := []) (avs := []) (vs := []) rfl trivial).1
    exact ⟨G3, _, r.1, pass_sep S3 P, r3, fin (s2.trans s3) k2 S3 p⟩
  | er x en' =>
    rw [q] at p
    intro cls dd H2 G2 s2 k2 S2 o2
    have P : PassOk Y G2 σ en' [] [] [] := (pass_ok S2 (ms := []) (us := []) (avs := []) (vs := []) rfl trivial).1
    exact ⟨G2, _, x, pass_sep S2 P, o2, fin s2 k2 S2 p⟩
/-- f(lambda: body) -/
theorem s_lam {f : Nat} {e' : E} {x a : Str} {g c P : Addr} {k : Nat} {pg : Arguments} {bg : List Stmt} {sg : Scope} {dV kV doc pm cdv ct oc : Value} {an od : Option Addr} {osl : Array (Option Value)} {Ng : List Str}
    {params : Arguments} {body : Expr} {scope : Scope} {p lpos pos : Pos} (hg : Gl X x) (hm : X.mg x = some (.ref g)) (hk : PySem.W.keepIn X.K (.ref g) = true)
    (lk : X.K.lookup g = some ⟨oc, od, .func (PySem.W.fnOf x x pg bg sg dV kV doc pm an cdv ct), osl⟩) (hcg : PySem.W.codeIn X.K cdv x = true) (hb : L2.Binds X.K (PySem.W.fnOf x x pg bg sg dV kV doc pm an cdv ct) [a] []) (Sg : FnScope Ng [a] sg) (hNg : Ng[0]? = some a) (hva : Vis sg a)
    (hG : (∀ args, U.C f args = .bad) ∨ LamX.GivesTo X Ng x sg g cdv bg a (X.env.qual ++ "<lambda>") (TTw Y (U.C f)))
    (TB : LamX.TabB X.base X.mg c P) (hcode : X.env.code = .ref c) (hmT : (P, X.env.qual ++ "<lambda>") ∈ Y.T) (hu : ∀ p ∈ Y.T, p.1 = P → p.2 = X.env.qual ++ "<lambda>") (hr : Room (k + 2) X.A) (L : LamX.LamS X.env.scope scope) (hdef : defaultsOf params X.env = ([], []))
    (hbind : ∀ (q : Str) (cl : List (Str × Addr)) (pm cv ctv : Value), bindArgs (PySem.W.kla_fn "<lambda>" q params body scope cl pm cv ctv) ⟨[], []⟩ = pure [])
    (hbody : ∀ (A : Around) (outer : List Env) (s : Shared) (H : Hp) (E : XK) (f c' : Addr), Room k (A.deeper (LamX.lamEnv X scope s.heap.objs.size f c')) → PE (LamX.lamCx X A outer s H E scope f c') body (rdE Y (wE E) U e'))
    (hdb : (x == ("__debug__" : Str)) = false := by decide) (hd : (a == ("__debug__" : Str)) = false := by decide) (hcd : (a == ("__classdict__" : Str)) = false := by decide) :
    PE X (.Call (.Name x p) [.Lambda params body scope lpos] [] pos) (rdE Y W U (.lam f e')) := by
  rcases hG with hb0 | hG
  · refine ⟨fun pins s σ H Q I h => ?_⟩
    obtain ⟨G, R, en, S, p⟩ := h
    rw [evE] at p
    simp only [hb0] at p
    split at p <;> exact p.elim
  · exact (LamX.pe_lamcall hg hm hk lk hcg hb Sg hNg hva hG TB hcode hmT hu hr L hdef hbind hbody hdb hd hcd).imp fun _ _ _ q => lam_red q
/-! ### .. and the def -/
theorem PW.st {G R : Hp} {σ : L2.St} {en : En} {r : Rs Fl} {np : Nat} {Q : VK} (h : PW Y G R (resOf np r) Q) : PstS Y W0 G R σ en r { nx := fun _ H' => Q .non H', rt := Q } := by
  cases r with
  | ok fl en' =>
    intro σ' H' G' s k S
    cases fl with
    | nx => exact h .non H' G' s S.forget .non
    | br => exact h.elim
    | ct => exact h.elim
    | rt d own => exact fun v o => h v H' G' s S.forget o.forget
  | er x en' => exact h.elim
  | bad => exact h.elim
abbrev wZ (X : Cx) (Ng : List Str) (x : Str) (sg : Scope) (g : Addr) (cdg : Value) (s : Shared) (H : Hp) : Cx := (cxOf C8.CX0 X.prog X.w X.K X.mg X.base Ng x sg g cdg X.A X.stack s H C8.E0).nox
theorem evSs_consU (w : Nat) (C : Nat → List (Bool × D) → CRes) (md : Nat → List Bool) (s : S) (ss : Ss) (en : En) : evSs w C md (.cons s ss) en = (evS w C md s en).bind fun fl en => match fl with
    | .nx => evSs w C md ss en | .br => .ok .br en | .ct => .ok .ct en | .rt d o => .ok (.rt d o) en := evSs_cons ⟨w, C, md⟩ s ss en
theorem word_core {Ng : List Str} {x a e n q : Str} {sg : Scope} {g CS : Addr} {cdg : Value} {f c' : Addr} {s : Shared} {H : Hp} {Q : VK} {tl : XK → Hp → VK → Prop} {ei np : Nat} {cs : List Nat} {b' r' : Ss} {b₀ : Stmt} {suite rest : List Stmt} {p1 p2 p3 p4 p5 p6 : Pos}
    {st : D → En} {σ1 : L2.St} {U : Ev} (hx : ∀ a c d, ¬ Y.ex a c d) (hth : ∀ a, Y.th a)
    (act : ∀ (W : WX) (pn : List (Addr × Obj)) (xe : Value → Shared → Prop) (E : XK) (p1 p2 : Pos), Takes ((cxOf C8.CX0 X.prog X.w X.K X.mg X.base Ng x sg g cdg X.A X.stack s H C8.E0).tr pn xe) W → (∀ cls d σ' H', E cls d H' → W cls d σ' H') →
      PE ((cxOf C8.CX0 X.prog X.w X.K X.mg X.base Ng x sg g cdg X.A X.stack s H C8.E0).tr pn xe) (.Call (.Name a p1) [] [] p2) (fun σZ HZ Q => σZ[0]? = some (some (.ref f)) ∧ HZ c' = some (LamX.CodeO c' q) ∧ tl E HZ Q))
    (hco : H c' = some (LamX.CodeO c' q))
    (htt : TTw Y (fun args => match args with | [(_, d)] => resOf np (evSs U.w U.C U.md (.cons (.tryw 0 ei cs b') r') (st d)) | _ => .bad) tl H Q)
    (h0 : ∀ d, (st d)[0]? = some (some (.sh, d))) (hl : ∀ d, (st d).length = Ng.length) (l1 : σ1.length = Ng.length) (hei : ei < Ng.length) (s0 : σ1[0]? = some (some (.ref f)))
    (hsh : ∀ (G : Hp) (d : D), Rep Y G (.ref f) d → ∀ (i : Nat) (ow : Ow) (d' : D), (st d)[i]? = some (some (ow, d')) → ow = .sh ∧ ∃ v, σ1[i]? = some (some v) ∧ Rep Y G v d')
    (hN : Ng.Nodup) (hi : Ng[ei]? = some n) (hln : sg.names.lookup n = some .local) (hge : sg.names.lookup e = some .globalImplicit) (hme : X.mg e = some (.ref CS)) (hcs : ∀ c, Y.xk c → PySem.W.exmOne X.K (.ref (Y.ca c)) (.ref CS) = some (cs.contains c))
    (hsu : ∀ (a : Addr) (oe : Obj) (cls : Value) (d : Option Addr) (pn : List (Addr × Obj)), Zc cls d oe → (∃ vs, oe.data = .fields vs) → (∃ c, Y.xk c ∧ cls = .ref (Y.ca c)) → PSs ((wZ X Ng x sg g cdg s H).suite a ((a, oe) :: pn)) (b₀ :: suite) (rdSs (Y.su a cls d) W0 U b'))
    (hrest : PSs (wZ X Ng x sg g cdg s H) rest (rdSs Y W0 U r')) (hde : (e == ("__debug__" : Str)) = false := by decide) :
    ∃ t, PSs (wZ X Ng x sg g cdg s H) (.Try [.Expr (.Call (.Name a p1) [] [] p2) p3] [.ExceptHandler (some (.Name e p4)) (some n) (b₀ :: suite) p5] [] [] p6 :: rest) t ∧ t { nx := fun _ H' => Q .non H', rt := Q } σ1 H := by
  have hgl : Gl (wZ X Ng x sg g cdg s H) e := hge
  have tk0 : Takes (wZ X Ng x sg g cdg s H) (fun _ _ _ _ => False) := LamX.takes0
  refine ⟨_, pss_cons (ps_try_as (X := wZ X Ng x sg g cdg s H) (i := ei) (c := .ref CS) (Wout := fun _ _ _ _ => False)
      (tb := fun W D σ H1 => ∃ (Ech : XK) (Q1 : VK), (∀ cls d σ' H', Ech cls d H' → W cls d σ' H') ∧ (∀ v H2, Q1 v H2 → D.nx σ H2) ∧ σ[0]? = some (some (.ref f)) ∧ H1 c' = some (LamX.CodeO c' q) ∧ tl Ech H1 Q1)
      (ts := fun a cls d D σ H1 => (∃ c, Y.xk c ∧ cls = .ref (Y.ca c)) ∧ (σ.length = Ng.length → rdSs (Y.su a cls d) W0 U b' D σ H1))
      rfl rfl hN hi hln ⟨hgl, hde, .inl hme⟩ tk0 (fun W pn xe tk _ => ?_) (fun a oe cls d pn hz hf => ?_)) hrest, ?_⟩
  · refine ⟨fun pinsZ s' σ H1 D I h' => ?_⟩
    obtain ⟨Ech, Q1, hW, hm, h1, h2, h3⟩ := h'
    have hp := act W pn xe Ech p1 p2 tk hW
    have hp2 : PE ((cxOf C8.CX0 X.prog X.w X.K X.mg X.base Ng x sg g cdg X.A X.stack s H C8.E0).tr pn xe) (.Call (.Name a p1) [] [] p2) (fun σZ HZ Q => ∃ Q1 : VK, (∀ v H, Q1 v H → Q v H) ∧ σZ[0]? = some (some (.ref f)) ∧ HZ c' = some (LamX.CodeO c' q) ∧ tl Ech HZ Q1) :=
      ⟨fun pins s σ H Q I ⟨Q1, m, r⟩ => thn (hp.run pins s σ H Q1 I r) fun v s1 ⟨x, H1, I1, r1, q1⟩ => ⟨x, H1, I1, r1, m _ _ q1⟩⟩
    have hq := pss_one (ps_expr (pos := p3) hp2)
    exact hq.run pinsZ s' σ H1 D I ⟨Q1, hm, h1, h2, h3⟩
  · exact ⟨fun pinsZ s' σ H1 D I ⟨hc, h⟩ => (hsu a oe cls d pn hz hf hc).run pinsZ s' σ H1 D I (h I.len)⟩
  · show ∃ (Ech : XK) (Q1 : VK), _
    refine ⟨_, _, fun cls dd σ' H' ⟨G1, R1, xx, S1, ox, pw⟩ => ?_, fun v H2 ⟨G1, R1, d, S1, rv, pw⟩ => ?_, s0, hco, htt⟩
    · obtain ⟨xk, rfl, ox⟩ := ox
      have pw : PW Y G1 R1 (resOf np (evSs U.w U.C U.md (.cons (.tryw 0 ei cs b') r') (st (.thk false (.exc xx.c xx.ns xx.xs))))) Q := pw
      rw [evSs_consU, evS, h0] at pw
      dsimp only at pw
      refine ⟨cs.contains xx.c, hcs _ xk, fun hb b na => ⟨⟨_, xk, rfl⟩, fun hlen => ?_⟩, fun hb => ?_⟩
      · rw [if_pos hb, hl] at pw
        have rx : Rep (Y.su b (.ref (Y.ca xx.c)) dd) G1 (.ref b) (.exc xx.c xx.ns xx.xs) := by
          rcases ox with ⟨h1, h2, h3⟩ | ⟨da, fs, h1, h2, h3, h4⟩
          · rw [h1, h2]; exact .exc0 ⟨rfl, xk, rfl, h3.symm⟩
          · exact .exc1 ⟨rfl, xk, rfl, h1.symm⟩ h2 h3 (RepL.su hx h4)
        have hlen' : σ'.length = Ng.length := by simpa using hlen
        have Sx : Sep (Y.su b (.ref (Y.ca xx.c)) dd) G1 R1 H' (σ'.set ei (some (.ref b))) ((List.replicate Ng.length none).set ei (some (.sh, .exc xx.c xx.ns xx.xs))) := (Sep.suIn hx S1).mkSh (by simp [hlen']) fun i ow d' e => by
          by_cases hi : ei = i
          · subst hi
            rw [List.getElem?_set_self (by simp; exact hei)] at e
            cases e
            exact ⟨rfl, _, List.getElem?_set_self (by rw [hlen']; exact hei), rx⟩
          · rw [List.getElem?_set_ne hi, List.getElem?_replicate] at e
            split at e <;> cases e
        refine ⟨G1, R1, _, Sx, ?_⟩
        cases z : evSs U.w U.C U.md b' ((List.replicate Ng.length none).set ei (some (.sh, .exc xx.c xx.ns xx.xs))) with
        | er x3 en3 => rw [z] at pw; exact pw.elim
        | bad => rw [z] at pw; exact pw.elim
        | ok fl en3 =>
          rw [z] at pw
          dsimp only at pw
          intro σ3 H3 G3 s3 k3 S3
          by_cases hn : (noXf fl && (en3.set ei none).all noXc) = true
          · rw [if_pos hn] at pw
            obtain ⟨n1, n2⟩ := Bool.and_eq_true_iff.mp hn
            have Sd : Sep Y G3 R1 H3 σ3 (en3.set ei none) := Sep.unsu S3.drop n2
            cases fl with
            | nx =>
              have Sd2 : Sep Y G3 R1 H3 (σ3.set ei none) (en3.set ei none) := Sd.agree (by rw [List.length_set]; exact Sd.len) fun i x e => by
                refine ⟨e, ?_⟩
                by_cases hi : ei = i
                · subst hi
                  by_cases hb : ei < en3.length
                  · rw [List.getElem?_set_self hb] at e; cases e
                  · rw [List.getElem?_eq_none (by rw [List.length_set]; omega)] at e; cases e
                · exact List.getElem?_set_ne hi
              have pw : PW Y G1 R1 (resOf np (evSs U.w U.C U.md r' (en3.set ei none))) Q := pw
              exact ⟨G3, R1, _, Sd2, PstS.weak (PW.st (σ := σ3.set ei none) (en := en3.set ei none) pw) s3 (Keep.refl _ _)⟩
            | br => exact pw.elim
            | ct => exact pw.elim
            | rt d own =>
              intro v o
              have pw : PW Y G1 R1 (.ok d own (outsOf np (en3.set ei none))) Q := pw
              refine pw v H3 G3 s3 Sd.forget ?_
              cases own with
              | false => exact Rep.unsu n1 o
              | true =>
                obtain ⟨b2, e2, w2, _⟩ := o
                exact ⟨b2, e2, ⟨w2.g, w2.r, w2.t.unsu n1⟩, fun i h => by cases h⟩
          · rw [if_neg hn] at pw
            exact pw.elim
      · rw [if_neg (by rw [hb]; decide)] at pw
        exact pw.elim
    · have pw : PW Y G1 R1 (resOf np (evSs U.w U.C U.md (.cons (.tryw 0 ei cs b') r') (st (.thk true d)))) Q := pw
      rw [evSs_consU, evS, h0] at pw
      have pw : PW Y G1 R1 (resOf np (evSs U.w U.C U.md r' (st (.thk true d)))) Q := pw
      exact ⟨G1, R1, _, S1.mkSh (by rw [l1, hl]) (hsh G1 _ (.thk (hth f))), PW.st pw⟩
theorem start3_1 (nn : Nat) (d : D) : start3 nn [(false, d)] = some (.sh, d) :: List.replicate (nn - 1) none := rfl
theorem rep1_get {nn i : Nat} {x : Ow × D} {d : D} (e : (some (Ow.sh, d) :: List.replicate (nn - 1) none)[i]? = some (some x)) : i = 0 ∧ x = (.sh, d) := by
  cases i with
  | zero => simp at e; exact ⟨rfl, e.symm⟩
  | succ i => rw [List.getElem?_cons_succ, List.getElem?_replicate] at e; split at e <;> cases e
/-- try: a() / except e as n: suite; rest -/
theorem word_gives0 {Ng : List Str} {x a e n q : Str} {sg : Scope} {g CS : Addr} {cdg : Value} {ei nn : Nat} {md1 : List Bool} {cs : List Nat} {b' r' : Ss} {b₀ : Stmt} {suite rest : List Stmt} {p1 p2 p3 p4 p5 p6 : Pos} {U : Ev}
    (hx : ∀ a c d, ¬ Y.ex a c d) (hth : ∀ a, Y.th a) (hn : Ng.length = nn) (hei : ei < nn) (hN : Ng.Nodup) (hi : Ng[ei]? = some n) (hln : sg.names.lookup n = some .local) (hge : sg.names.lookup e = some .globalImplicit) (hme : X.mg e = some (.ref CS))
    (hcs : ∀ c, Y.xk c → PySem.W.exmOne X.K (.ref (Y.ca c)) (.ref CS) = some (cs.contains c))
    (hsu : ∀ (s : Shared) (H : Hp) (a : Addr) (oe : Obj) (cls : Value) (d : Option Addr) (pn : List (Addr × Obj)), Zc cls d oe → (∃ vs, oe.data = .fields vs) → (∃ c, Y.xk c ∧ cls = .ref (Y.ca c)) → PSs ((wZ X Ng x sg g cdg s H).suite a ((a, oe) :: pn)) (b₀ :: suite) (rdSs (Y.su a cls d) W0 U b'))
    (hrest : ∀ (s : Shared) (H : Hp), PSs (wZ X Ng x sg g cdg s H) rest (rdSs Y W0 U r')) (hde : (e == ("__debug__" : Str)) = false := by decide) :
    LamX.GivesTo X Ng x sg g cdg (.Try [.Expr (.Call (.Name a p1) [] [] p2) p3] [.ExceptHandler (some (.Name e p4)) (some n) (b₀ :: suite) p5] [] [] p6 :: rest) a q
      (TTw Y (runFn U.w U.C U.md ⟨1, nn, md1, .cons (.tryw 0 ei cs b') r'⟩)) := by
  intro f c' s H Q tl act hc htt
  have l1 : (L2.start Ng [V.ref f]).length = Ng.length := by
    show ([some (V.ref f)] ++ List.replicate (Ng.length - 1) none).length = _
    simp; omega
  exact word_core (σ1 := L2.start Ng [V.ref f]) (np := 1) (st := fun d => start3 nn [(false, d)]) hx hth act hc htt (fun d => rfl) (fun d => by rw [start3_1]; simp; omega) l1 (by omega) rfl
    (fun G d r i ow d' e => by
      obtain ⟨rfl, e2⟩ := rep1_get e
      cases e2
      exact ⟨rfl, _, rfl, r⟩) hN hi hln hge hme hcs (hsu s H) (hrest s H) hde
/-- v = c; try: a() / except e as n: suite; rest -/
theorem word_gives1 {Ng : List Str} {x a e n q v : Str} {sg : Scope} {g CS : Addr} {cdg : Value} {ei j nn : Nat} {md1 : List Bool} {cs : List Nat} {b' r' : Ss} {b₀ : Stmt} {suite rest : List Stmt} {p1 p2 p3 p4 p5 p6 pv pa : Pos} {U : Ev} {ce : Expr} {cv : V} {dc : D}
    (hx : ∀ a c d, ¬ Y.ex a c d) (hth : ∀ a, Y.th a) (hn : Ng.length = nn) (hei : ei < nn) (hN : Ng.Nodup) (hi : Ng[ei]? = some n) (hln : sg.names.lookup n = some .local) (hge : sg.names.lookup e = some .globalImplicit) (hme : X.mg e = some (.ref CS))
    (hj : j < nn) (hj0 : 0 < j) (hv : Ng[j]? = some v) (hlv : sg.names.lookup v = some .local) (hce : ∀ (s : Shared) (H : Hp), PE (wZ X Ng x sg g cdg s H) ce (tC cv)) (hrc : ∀ G, Rep Y G cv dc) (hsw : ∀ (s : Shared) (H : Hp), swapsWith ce (some (.Name v pv)) pa.line (wZ X Ng x sg g cdg s H).env = pure false)
    (hcs : ∀ c, Y.xk c → PySem.W.exmOne X.K (.ref (Y.ca c)) (.ref CS) = some (cs.contains c))
    (hsu : ∀ (s : Shared) (H : Hp) (a : Addr) (oe : Obj) (cls : Value) (d : Option Addr) (pn : List (Addr × Obj)), Zc cls d oe → (∃ vs, oe.data = .fields vs) → (∃ c, Y.xk c ∧ cls = .ref (Y.ca c)) → PSs ((wZ X Ng x sg g cdg s H).suite a ((a, oe) :: pn)) (b₀ :: suite) (rdSs (Y.su a cls d) W0 U b'))
    (hrest : ∀ (s : Shared) (H : Hp), PSs (wZ X Ng x sg g cdg s H) rest (rdSs Y W0 U r')) (hde : (e == ("__debug__" : Str)) = false := by decide) :
    LamX.GivesTo X Ng x sg g cdg (.Assign [.Name v pv] ce pa :: .Try [.Expr (.Call (.Name a p1) [] [] p2) p3] [.ExceptHandler (some (.Name e p4)) (some n) (b₀ :: suite) p5] [] [] p6 :: rest) a q
      (TTw Y (runFn U.w U.C U.md ⟨1, nn, md1, .cons (.asg (.nm j) (.cst dc)) (.cons (.tryw 0 ei cs b') r')⟩)) := by
  intro f c' s H Q tl act hc htt
  have l1 : (L2.start Ng [V.ref f]).length = Ng.length := by
    show ([some (V.ref f)] ++ List.replicate (Ng.length - 1) none).length = _
    simp; omega
  have hrun : ∀ d, runFn U.w U.C U.md ⟨1, nn, md1, .cons (.asg (.nm j) (.cst dc)) (.cons (.tryw 0 ei cs b') r')⟩ [(false, d)] = resOf 1 (evSs U.w U.C U.md (.cons (.tryw 0 ei cs b') r') ((start3 nn [(false, d)]).set j (some (.sh, dc)))) := fun d => by
    show resOf 1 (evSs U.w U.C U.md (.cons (.asg (.nm j) (.cst dc)) _) (start3 nn [(false, d)])) = _
    have hst : stVar j dc false (start3 nn [(false, d)]) = some ((start3 nn [(false, d)]).set j (some (.sh, dc))) := by
      obtain ⟨k, rfl⟩ : ∃ k, j = k + 1 := ⟨j - 1, by omega⟩
      have e : (start3 nn [(false, d)])[k + 1]? = some none := by
        rw [start3_1, List.getElem?_cons_succ, List.getElem?_replicate, if_pos (by omega)]
      unfold stVar
      rw [e]
      rfl
    rw [evSs_consU, evS, evE]
    show resOf 1 (((stR (stVar j dc false (start3 nn [(false, d)]))).bind fun _ en => Rs.ok Fl.nx en).bind _) = _
    rw [hst]
    rfl
  have htt' : TTw Y (fun args => match args with | [(_, d)] => resOf 1 (evSs U.w U.C U.md (.cons (.tryw 0 ei cs b') r') ((start3 nn [(false, d)]).set j (some (.sh, dc)))) | _ => .bad) tl H Q := by
    unfold TTw at htt ⊢
    simp only [hrun] at htt
    exact htt
  obtain ⟨t, h1, h2⟩ := word_core (σ1 := (L2.start Ng [V.ref f]).set j (some cv)) (np := 1) (p1 := p1) (p2 := p2) (p3 := p3) (p4 := p4) (p5 := p5) (p6 := p6) (st := fun d => (start3 nn [(false, d)]).set j (some (.sh, dc))) hx hth act hc htt'
    (fun d => by rw [List.getElem?_set_ne (by omega)]; rfl) (fun d => by rw [List.length_set, start3_1]; simp; omega) (by rw [List.length_set]; exact l1) (by omega) (by rw [List.getElem?_set_ne (by omega)]; rfl)
    (fun G d r i ow d' e => by
      by_cases hji : j = i
      · subst hji
        rw [List.getElem?_set_self (by rw [start3_1]; simp; omega)] at e
        cases e
        exact ⟨rfl, cv, List.getElem?_set_self (by rw [l1]; omega), hrc G⟩
      · rw [List.getElem?_set_ne hji] at e ⊢
        obtain ⟨rfl, e2⟩ := rep1_get e
        cases e2
        exact ⟨rfl, _, rfl, r⟩) hN hi hln hge hme hcs (hsu s H) (hrest s H) hde
  exact ⟨_, pss_cons (ps_set hN hv (.inl hlv) (hce s H) (hsw s H) (.inr hlv)) h1, h2⟩
end
end L3

/-! L3O: a def keeps its promise. -/
namespace L3
open PySem PySem.Spec PyProof.Rows L2
section
variable {Y : Wd} {G R H : Hp} {σ : L2.St} {en : En}
theorem Sep.starts {vs : List V} {cs : List Cell} (S : Sep Y G R H (vs.map some) cs) (k : Nat) : Sep Y G R H (vs.map some ++ List.replicate k none) (cs ++ List.replicate k none) := by
  have hl : (vs.map some).length = cs.length := S.len
  have key : ∀ (i : Nat) x, (cs ++ List.replicate k none)[i]? = some (some x) → cs[i]? = some (some x) ∧ (vs.map some ++ List.replicate k none)[i]? = (vs.map some)[i]? := fun i x e => by
    by_cases h : i < cs.length
    · rw [List.getElem?_append_left h] at e
      exact ⟨e, List.getElem?_append_left (by rw [hl]; exact h)⟩
    · rw [List.getElem?_append_right (by omega), List.getElem?_replicate] at e
      split at e <;> cases e
  exact S.agree (by rw [List.length_append, List.length_append, hl, List.length_replicate, List.length_replicate]) key
theorem outsOf_get {np i : Nat} {x : Ow × D} (e : (outsOf np en)[i]? = some (some x)) : i < np ∧ en[i]? = some (some x) ∧ x.1.isB = true := by
  unfold outsOf at e
  rw [List.getElem?_map] at e
  by_cases h : i < np
  · rw [List.getElem?_range h] at e
    have e : some (keepB ((en[i]?).getD none)) = some (some x) := e
    cases q : en[i]? with
    | none => rw [q] at e; cases e
    | some c =>
      rw [q] at e
      cases c with
      | none => cases e
      | some p =>
        obtain ⟨ow, d⟩ := p
        have e : some (if ow.isB then some (ow, d) else none) = some (some x) := e
        split at e
        · rename_i hb; cases e; exact ⟨h, rfl, hb⟩
        · cases e
  · rw [List.getElem?_eq_none (by simp; omega)] at e; cases e
/-- the parameters behind the call -/
theorem Sep.outs {σ0 σ' : L2.St} {en0 en' : En} {vs : List V} {np : Nat} (S : Sep Y G R H σ' en') (k : Keep σ0 en0 σ' en') (hl : vs.length = np) (h0 : ∀ i : Nat, i < np → σ0[i]? = (vs.map some)[i]?) :
    Sep Y G R H (vs.map some) (outsOf np en') ∧ ∀ (v : V) (d : D) (own : Bool), Vok Y G R H σ' en' v d own → Vok Y G R H (vs.map some) (outsOf np en') v d own := by
  have key : ∀ (i : Nat) x, (outsOf np en')[i]? = some (some x) → en'[i]? = some (some x) ∧ (vs.map some)[i]? = σ'[i]? := fun i x e => by
    obtain ⟨h1, h2, h3⟩ := outsOf_get e
    refine ⟨h2, ?_⟩
    have hb : isBC en'[i]? = true := by rw [h2]; exact h3
    rw [(k i).1] at hb
    rw [(k i).2 hb, h0 i h1]
  refine ⟨S.agree (by simp [outsOf, hl]) key, fun v d own o => ?_⟩
  cases own with
  | false => exact o
  | true =>
    obtain ⟨a, e, w, f⟩ := o
    refine ⟨a, e, w, fun i hi z => ?_⟩
    obtain ⟨ow, d, e1, e2⟩ := isOwnC_get hi
    obtain ⟨h1, h2⟩ := key i _ e1
    rw [h2] at z
    exact f i (by rw [h1]; exact e2) z
theorem PstF.st {vs : List V} {args : List (Bool × D)} {np : Nat} {σ0 : L2.St} {en0 : En} {r : Rs Fl} {Q : VK} {E : XK} (h : PstF Y G R vs (resOf np r) Q E) (hl : vs.length = np) (h0 : ∀ i : Nat, i < np → σ0[i]? = (vs.map some)[i]?) :
    PstS Y (wE E) G R σ0 en0 r { nx := fun _ H' => Q .non H', rt := Q } := by
  cases r with
  | ok fl en' =>
    intro σ' H' G' s k S
    obtain ⟨h1, h2⟩ := Sep.outs S k hl h0
    cases fl with
    | nx => exact h .non H' G' s h1 .non
    | br => exact h.elim
    | ct => exact h.elim
    | rt d own => exact fun v o => h v H' G' s h1 (h2 v d own o)
  | er x en' =>
    intro cls dd σ' H' G' s k S o
    obtain ⟨h1, h2⟩ := Sep.outs S k hl h0
    exact h cls dd H' G' s h1 o
  | bad => exact h.elim
end
/-- a def's function object as the written part has it -/
def fdOf (K : PySem.W.Frag) (p : Str × Option Str) : FuncData := match K.lookup (He.fAd K p) with
  | some ⟨_, _, .func fd, _⟩ => fd
  | _ => PySem.W.fnOf "" "" ⟨[], [], none, [], [], none, []⟩ [] ⟨.module, [], false, false, []⟩ .none .none .none .none none .none .none
theorem fdOf_eq {K : PySem.W.Frag} {x qual : Str} {params : Arguments} {body : List Stmt} {scope : Scope} {dvs : List V} {kws : List (Str × V)} {p : Str × Option Str} {fd : FuncData} (F : FunD K x qual params body scope dvs kws (He.fAd K p) fd) : fdOf K p = fd := by
  obtain ⟨oc, od, dV, kV, doc, pm, an, cdv, ct, osl, _, lk, _⟩ := F.ex
  unfold fdOf
  rw [lk]
section
variable {P : Program} {w : World} {K : PySem.W.Frag} {mg : Str → Option Value} {base : Heap} {Y : Wd}
/-- THE RULE for a def -/
theorem fn_ok {x qual : Str} {params : Arguments} {body : List Stmt} {scope : Scope} {at_ : Str × Option Str} {fd : FuncData} {N ps : List Str} {k : Nat} {U : Ev} {fn : Fn} (F : FunD K x qual params body scope [] [] (He.fAd K at_) fd) (S : FnScope N ps scope) (hnp : fn.np = ps.length) (hnn : fn.nn = N.length)
    (hbody : ∀ (cdv : Value) (A : Around) (outer : List Env) (s : Shared) (H : Hp) (E : XK), Room k (A.deeper (envOfC qual scope s.heap.objs.size (He.fAd K at_) cdv)) → cdv = .ref (He.codeOf K at_) →
      PSs (cxOf (L2.CX P w) P w K mg base N qual scope (He.fAd K at_) cdv A outer s H E) body (rdSs Y (wE E) U fn.body)) :
    FnOk P w K mg base (L2.CX P w) (k + 1) (He.fAd K at_) fd ps (spF Y (runFn U.w U.C U.md fn)) := by
  obtain ⟨oc, od, dV, kV, doc, pm, an, cdv, ct, osl, rfl, lk, hcd, _, _⟩ := F.ex
  have hlen : ∀ vs H Q E, spF Y (runFn U.w U.C U.md fn) vs H Q E → ∃ G R args, Sep Y G R H (vs.map some) (args.map cellOf) ∧ args.length = fn.np ∧ vs.length = ps.length ∧ PstF Y G R vs (resOf fn.np (evSs U.w U.C U.md fn.body (start3 fn.nn args))) Q E := fun vs H Q E ⟨G, R, args, S, p⟩ => by
    unfold runFn at p
    split at p
    · rename_i h
      have := S.len
      simp at this
      exact ⟨G, R, args, S, h, by rw [this, h, hnp], p⟩
    · exact p.elim
  refine fn_of lk hcd S (fun vs H Q E h => ?_) fun A outer s H vs Q E hr h => ?_
  · obtain ⟨_, _, _, _, _, h, _⟩ := hlen vs H Q E h
    exact h
  · obtain ⟨G, R, args, Sx, h1, h2, p⟩ := hlen vs H Q E h
    obtain ⟨c, hc⟩ := He.codeIn_ref hcd
    have hcc : He.codeOf K at_ = c := He.codeOf_eq lk hc
    refine ⟨_, hbody cdv A outer s H E hr (by rw [hcc]; exact hc), G, R, start3 fn.nn args, ?_, ?_⟩
    · have := Sx.starts (fn.nn - args.length)
      have e : N.length - vs.length = fn.nn - args.length := by rw [hnn, h1, hnp, h2]
      unfold L2.start start3
      rw [e]
      exact this
    · refine PstF.st (args := args) p (by rw [hnp]; exact h2) fun i hi => ?_
      unfold L2.start
      exact List.getElem?_append_left (by simp; omega)
end
theorem callD_succ {T : List Fn} {w n f : Nat} {fn : Fn} (h : T[f]? = some fn) : callD T w (n + 1) f = runFn w (callD T w n) (mdOf T) fn := by
  funext args
  simp only [callD, h]
section
variable {P : Program} {w : World} {K : PySem.W.Frag} {mg : Str → Option Value} {base : Heap}
/-- __init__(self, f): self.f = f of an own exception class -/
theorem init_ok {C : Addr} {x qual f a1 a2 : Str} {params : Arguments} {scope : Scope} {fI : Addr} {fd : FuncData} {k : Nat} {p1 p2 p3 p4 : Pos} (F : FunD K x qual params [.Assign [.Attribute (.Name a1 p1) f p2] (.Name a2 p3) p4] scope [] [] fI fd)
    (S : FnScope [a1, a2] [a1, a2] scope) (T : OexC K C) (hno : PySem.W.findIn K (.ref C) f = some none) (v1 : Vis scope a1) (v2 : Vis scope a2) (d1 : (a1 == ("__debug__" : Str)) = false := by decide) (d2 : (a1 == ("__classdict__" : Str)) = false := by decide)
    (d3 : (a2 == ("__debug__" : Str)) = false := by decide) (d4 : (a2 == ("__classdict__" : Str)) = false := by decide) : FnOk P w K mg base (L2.CX P w) (k + 1) fI fd [a1, a2] (spI C f) := by
  refine F.ok S (fun vs H Q E h => ?_) (fun cdv A outer s H vs Q E hr h => ?_)
  · obtain ⟨a, y, rfl, _⟩ := h; rfl
  · obtain ⟨a, y, rfl, ha, q⟩ := h
    refine ⟨_, pss_one (ps_ost (pe_var (i := 0) rfl v1 d1 d2) (pe_var (i := 1) rfl v2 d3 d4)), ?_⟩
    exact ⟨y, rfl, .ref a, rfl, a, C, rfl, T, hno, .inl ⟨ha, fun dx n ne => q dx n ne⟩⟩
/-! ### facts as Bools -/
def oexB (K : PySem.W.Frag) (C : Addr) : Bool := (match K.lookup C with
    | some ⟨.type "type", dd, .cls cd, sl⟩ => (match cd.mro, sl.toList with
      | .ref C' :: bm, [_, _, _, _, some (.builtin n), _] => C' == C && n == "ValueError.__new__" && !cd.hasDel && cd.hasDict && PySem.HandSPX.refsVE bm
      | _, _ => false)
    | _ => false) && (decide (PySem.W.findIn K (.ref C) "__setattr__" = some (some (.builtin "object.__setattr__"))) && (decide (PySem.W.subIn K (.ref C) (.type "BaseException") = some true) && (decide (PySem.W.typeIn K (.ref C) = some (.type "type")) && PySem.W.keepIn K (.ref C))))
theorem oexB_ok {K : PySem.W.Frag} {C : Addr} (h : oexB K C = true) : OexC K C := by
  obtain ⟨h1, h⟩ := Bool.and_eq_true_iff.mp h
  obtain ⟨h2, h⟩ := Bool.and_eq_true_iff.mp h
  obtain ⟨h3, h⟩ := Bool.and_eq_true_iff.mp h
  obtain ⟨h4, h5⟩ := Bool.and_eq_true_iff.mp h
  refine ⟨?_, of_decide_eq_true h2, of_decide_eq_true h3, of_decide_eq_true h4, h5⟩
  split at h1
  · rename_i dd cd sl ho
    split at h1
    · rename_i C' bm k0 k1 k2 k3 n k5 hm hs
      simp only [Bool.and_eq_true, beq_iff_eq, Bool.not_eq_true'] at h1
      obtain ⟨⟨⟨⟨rfl, rfl⟩, hdel⟩, hdi⟩, hr⟩ := h1
      obtain ⟨nm, bs, mro, ns, qn, hd, sn, sub, ab, col, del⟩ := cd
      dsimp only at hm hdel hdi
      subst hm hdel hdi
      have hsl : sl = #[k0, k1, k2, k3, some (.builtin "ValueError.__new__"), k5] := by
        obtain ⟨l⟩ := sl
        simp only at hs
        rw [hs]
      subst hsl
      exact ⟨nm, qn, ns, bs, bm, sn, sub, ab, col, dd, k0, k1, k2, k3, k5, ho, hr⟩
    · cases h1
  · cases h1
def excB (K : PySem.W.Frag) (D : Addr) : Bool := He.eqO (PySem.W.findIn K (.ref D) "__getattribute__") (some (some (.builtin "BaseException.__getattribute__"))) && (He.eqO (PySem.W.findIn K (.ref D) "__getattr__") (some none) && (decide (PySem.W.subIn K (.ref D) (.type "BaseException") = some true) &&
  (PySem.W.hasDictIn K D && (He.eqO (PySem.W.findIn K (.ref D) "__class__") (some (some (.builtin "object.__class__"))) && (He.eqO (PySem.W.specialIn K (.builtin "object.__class__") "__get__") (some (some (.builtin "getset_descriptor.__get__"))) &&
  (decide (PySem.W.takesIn K (.builtin "object.__class__") = some true) && decide (PySem.W.mroIn K D (.type "object") = some true)))))))
theorem excB_ok {K : PySem.W.Frag} {D : Addr} (h : excB K D = true) : ExcC K D ∧ XfC K D := by
  obtain ⟨h1, h⟩ := Bool.and_eq_true_iff.mp h
  obtain ⟨h2, h⟩ := Bool.and_eq_true_iff.mp h
  obtain ⟨h3, h⟩ := Bool.and_eq_true_iff.mp h
  obtain ⟨h4, h⟩ := Bool.and_eq_true_iff.mp h
  obtain ⟨h5, h⟩ := Bool.and_eq_true_iff.mp h
  obtain ⟨h6, h⟩ := Bool.and_eq_true_iff.mp h
  obtain ⟨h7, h8⟩ := Bool.and_eq_true_iff.mp h
  exact ⟨⟨He.eqO_ok h1, He.eqO_ok h2, of_decide_eq_true h3, h4, He.eqO_ok h5, He.eqO_ok h6, of_decide_eq_true h7, of_decide_eq_true h8⟩, ⟨He.eqO_ok h1, He.eqO_ok h2, of_decide_eq_true h3, h4⟩⟩
/-- own exception classes: the names; cs: for each class, who is one of it (by number) -/
def exnsB (K : PySem.W.Frag) (xs : List Str) : Bool := xs.all fun x => excB K (He.ga K x)
/-- isinstance of the exceptions -/
def isB (K : PySem.W.Frag) (xs : List Str) (q : Value × List Nat) : Bool := (List.range xs.length).all fun i => match xs[i]? with
  | some x => decide (PySem.W.kitOne K (.ref (He.ga K x)) q.1 = some (q.2.contains i))
  | none => false
/-- except clauses -/
def exmB (K : PySem.W.Frag) (xs : List Str) (q : Addr × List Nat) : Bool := (List.range xs.length).all fun i => match xs[i]? with
  | some x => decide (PySem.W.exmOne K (.ref (He.ga K x)) (.ref q.1) = some (q.2.contains i))
  | none => false
/-- fields that no class has -/
def noatB (K : PySem.W.Frag) (xs : List Str) (f : Str) : Bool := xs.all fun x => He.eqO (PySem.W.findIn K (.ref (He.ga K x)) f) (some none)
/-- the class with number c -/
def caOf (K : PySem.W.Frag) (xs : List Str) (c : Nat) : Addr := He.ga K (xs.getD c "")
theorem getD_of {xs : List Str} {c : Nat} (h : c < xs.length) : xs[c]? = some (xs.getD c "") := by
  rw [List.getD_eq_getElem?_getD, List.getElem?_eq_getElem h]; rfl
theorem isB_ok {K : PySem.W.Frag} {xs : List Str} {q : Value × List Nat} (h : isB K xs q = true) {c : Nat} (hc : c < xs.length) : PySem.W.kitOne K (.ref (caOf K xs c)) q.1 = some (q.2.contains c) := by
  have := List.all_eq_true.mp h c (List.mem_range.mpr hc)
  rw [getD_of hc] at this
  exact of_decide_eq_true this
theorem exmB_ok {K : PySem.W.Frag} {xs : List Str} {q : Addr × List Nat} (h : exmB K xs q = true) {c : Nat} (hc : c < xs.length) : PySem.W.exmOne K (.ref (caOf K xs c)) (.ref q.1) = some (q.2.contains c) := by
  have := List.all_eq_true.mp h c (List.mem_range.mpr hc)
  rw [getD_of hc] at this
  exact of_decide_eq_true this
theorem noatB_ok {K : PySem.W.Frag} {xs : List Str} {f : Str} (h : noatB K xs f = true) {c : Nat} (hc : c < xs.length) : PySem.W.findIn K (.ref (caOf K xs c)) f = some none :=
  He.eqO_ok (List.all_eq_true.mp h _ (List.mem_of_getElem? (getD_of hc)))
theorem exnsB_ok {K : PySem.W.Frag} {xs : List Str} (h : exnsB K xs = true) {c : Nat} (hc : c < xs.length) : ExcC K (caOf K xs c) ∧ XfC K (caOf K xs c) := excB_ok (List.all_eq_true.mp h _ (List.mem_of_getElem? (getD_of hc)))
/-! ### a law's end -/
theorem Sep.scr {Y : Wd} {H : Hp} {a : Addr} {ns : List Int} (hS : SqL Y.K H a (ns.map V.int)) (hT : LamX.Tabs Y.T H) : ∃ G R, Sep Y G R H ([V.ref a].map some) ([(false, D.fls (ns.map D.int))].map cellOf) := by
  let G : Hp := fun b => match H b with | some (.tbl _) => none | x => x
  have gS : ∀ b o, H b = some o → (∀ ps, o ≠ .tbl ps) → G b = some o := fun b o e n => by
    show (match H b with | some (.tbl _) => none | x => x) = some o
    rw [e]
    cases o <;> first | rfl | exact absurd rfl (n _)
  have gH : Same G H := fun b o e => by
    have e : (match H b with | some (.tbl _) => none | x => x) = some o := e
    split at e
    · cases e
    · exact e
  have hG : SqL Y.K G a (ns.map V.int) := by
    rcases hS with (h | ⟨o, h⟩) | h
    · exact .inl (.inl (gS _ _ h fun ps z => by cases z))
    · exact .inl (.inr ⟨o, gS _ _ h fun ps z => by cases z⟩)
    · exact .inr h
  refine ⟨G, fun _ => none, gH, (fun b o e => by cases e), (fun b o e => by cases e), rfl, fun i ow d e k => ?_, fun i ow d e k => ?_, fun i j b e1 => ?_, ⟨hT, fun b ps z => ?_, fun b ps z => by cases z⟩⟩
  · cases i with
    | zero => cases e; exact ⟨_, rfl, .fls hG (RepL.ofInts ns)⟩
    | succ i => cases e
  · cases i with
    | zero => cases e; cases k
    | succ i => cases e
  · cases i with
    | zero => cases e1
    | succ i => cases e1
  · have z : (match H b with | some (.tbl _) => none | x => x) = some (.tbl ps) := z
    split at z
    · cases z
    · rename_i h; exact h _ z
theorem law_sp {Y : Wd} {f : List (Bool × D) → CRes} {H : Hp} {a : Addr} {ns : List Int} {outs : List Cell} (h : f [(false, .fls (ns.map D.int))] = .ok (.bl true) false outs) (hS : SqL Y.K H a (ns.map V.int)) (hT : LamX.Tabs Y.T H) : spF Y f [.ref a] H (fun v _ => v = .bl true) fun _ _ _ => False := by
  obtain ⟨G, R, S⟩ := Sep.scr hS hT
  refine ⟨G, R, [(false, .fls (ns.map D.int))], S, ?_⟩
  rw [h]
  intro v H' G' s S' o
  have o : Rep Y G' v (.bl true) := o
  cases o
  rfl
end
end L3

/-! L3P: the rules' short names. -/
namespace L3
open PySem PySem.Spec PyProof.Rows L2
section
variable {X : Cx} {Y : Wd} {W : WX} {U : Ev} {a b c e : Expr} {a' b' c' : E} {es : List Expr} {as' : Es} {pos p : Pos}
theorem b_add (hK : X.K = Y.K) (ha : PE X a (rdX Y W U a')) (hb : PE X b (rdX Y W U b')) : PE X (.BinOp a .Add b pos) (rdE Y W U (.op .add (.cons a' (.cons b' .nil)))) := s_bin op_addA rfl (p_add hK) ha hb
theorem b_sub (ha : PE X a (rdX Y W U a')) (hb : PE X b (rdX Y W U b')) : PE X (.BinOp a .Sub b pos) (rdE Y W U (.op .sub (.cons a' (.cons b' .nil)))) := s_bin op_sub rfl p_sub ha hb
theorem b_mul (ha : PE X a (rdX Y W U a')) (hb : PE X b (rdX Y W U b')) : PE X (.BinOp a .Mult b pos) (rdE Y W U (.op .mul (.cons a' (.cons b' .nil)))) := s_bin op_mulA rfl p_mul ha hb
theorem b_rep (hK : X.K = Y.K) (ha : PE X a (rdX Y W U a')) (hb : PE X b (rdX Y W U b')) : PE X (.BinOp a .Mult b pos) (rdE Y W U (.op .rep (.cons a' (.cons b' .nil)))) := s_bin op_repA rfl (p_rep hK) ha hb
theorem b_fdiv (ha : PE X a (rdX Y W U a')) (hb : PE X b (rdX Y W U b')) : PE X (.BinOp a .FloorDiv b pos) (rdE Y W U (.op .fdiv (.cons a' (.cons b' .nil)))) := s_bin op_divA rfl p_fdiv ha hb
theorem b_mod (ha : PE X a (rdX Y W U a')) (hb : PE X b (rdX Y W U b')) : PE X (.BinOp a .Mod b pos) (rdE Y W U (.op .mod (.cons a' (.cons b' .nil)))) := s_bin op_mod rfl p_mod ha hb
theorem b_pow (ha : PE X a (rdX Y W U a')) (hb : PE X b (rdX Y W U b')) : PE X (.BinOp a .Pow b pos) (rdE Y W U (.op .pow (.cons a' (.cons b' .nil)))) := s_bin op_pow rfl p_pow ha hb
theorem b_shl (ha : PE X a (rdX Y W U a')) (hb : PE X b (rdX Y W U b')) : PE X (.BinOp a .LShift b pos) (rdE Y W U (.op .shl (.cons a' (.cons b' .nil)))) := s_bin op_shl rfl p_shl ha hb
theorem b_shr (ha : PE X a (rdX Y W U a')) (hb : PE X b (rdX Y W U b')) : PE X (.BinOp a .RShift b pos) (rdE Y W U (.op .shr (.cons a' (.cons b' .nil)))) := s_bin op_shr rfl p_shr ha hb
theorem b_band (ha : PE X a (rdX Y W U a')) (hb : PE X b (rdX Y W U b')) : PE X (.BinOp a .BitAnd b pos) (rdE Y W U (.op .band (.cons a' (.cons b' .nil)))) := s_bin op_and rfl p_band ha hb
theorem b_bor (ha : PE X a (rdX Y W U a')) (hb : PE X b (rdX Y W U b')) : PE X (.BinOp a .BitOr b pos) (rdE Y W U (.op .bor (.cons a' (.cons b' .nil)))) := s_bin op_or rfl p_bor ha hb
theorem b_bxor (ha : PE X a (rdX Y W U a')) (hb : PE X b (rdX Y W U b')) : PE X (.BinOp a .BitXor b pos) (rdE Y W U (.op .bxor (.cons a' (.cons b' .nil)))) := s_bin op_xor rfl p_bxor ha hb
theorem u_neg (ha : PE X a (rdX Y W U a')) : PE X (.UnaryOp .USub a pos) (rdE Y W U (.op .neg (.cons a' .nil))) := s_un un_neg rfl p_neg ha
/-! ### comparisons: as a value, as a test, as a step of a chain -/
/-- a comparison's operation -/
structure CmpK (X : Cx) (Y : Wd) (W : WX) (op : CmpOp) (o : Op) : Prop where
  r : ∃ r : R2, OpR X (compareOp op) r ∧ P2 Y W o r
  k : o.keeps = false
theorem k_eq (hK : X.K = Y.K) (hu : X.A.units + 64 < cLine) : CmpK X Y W .Eq .eq := ⟨⟨_, op_eqD hu, p_eq hK⟩, rfl⟩
theorem k_ne (hK : X.K = Y.K) (hu : X.A.units + 64 < cLine) : CmpK X Y W .NotEq .ne := ⟨⟨_, op_neD hu, p_ne hK⟩, rfl⟩
theorem k_lt (hK : X.K = Y.K) (hu : X.A.units + 69 < cLine) : CmpK X Y W .Lt .lt := ⟨⟨_, op_ltX hK hu, p_lt⟩, rfl⟩
theorem k_le : CmpK X Y W .LtE .le := ⟨⟨_, op_le, p_le⟩, rfl⟩
theorem k_gt : CmpK X Y W .Gt .gt := ⟨⟨_, op_gt, p_gt⟩, rfl⟩
theorem k_ge : CmpK X Y W .GtE .ge := ⟨⟨_, op_ge, p_ge⟩, rfl⟩
theorem c_e {op : CmpOp} {o : Op} (h : CmpK X Y W op o) (ha : PE X a (rdX Y W U a')) (hb : PE X b (rdX Y W U b')) (hm : behindInMarks op b = false := by first | exact nobehind _ (by decide) (by decide) | rfl) : PE X (.Compare a [op] [b] pos) (rdE Y W U (.op o (.cons a' (.cons b' .nil)))) := by
  obtain ⟨⟨r, h1, h2⟩, hk⟩ := h
  exact s_cmp h1 hk h2 ha hb hm
theorem c_t {op : CmpOp} {o : Op} (h : CmpK X Y W op o) (ha : PE X a (rdX Y W U a')) (hb : PE X b (rdX Y W U b')) (hm : behindInMarks op b = false := by first | exact nobehind _ (by decide) (by decide) | rfl) : PT X (.Compare a [op] [b] pos) (rdT Y W U (.op o (.cons a' (.cons b' .nil)))) := by
  obtain ⟨⟨r, h1, h2⟩, hk⟩ := h
  exact s_cmpT h1 hk h2 ha hb hm
theorem c_chn {op op2 : CmpOp} {o o2 : Op} (h : CmpK X Y W op o) (h2 : CmpK X Y W op2 o2) (ha : PE X a (rdX Y W U a')) (hb : PE X b (rdX Y W U b')) (hc : PE X c (rdX Y W U c')) (hm : lastMarks [op, op2] [b, c] = false := by with_unfolding_all rfl) :
    PE X (.Compare a [op, op2] [b, c] pos) (rdE Y W U (.chn o o2 a' b' c')) := by
  obtain ⟨⟨r, h1, h2'⟩, hk⟩ := h
  obtain ⟨⟨r', h3, h4⟩, hk2⟩ := h2
  exact s_chn h1 h3 hk hk2 h2' h4 ha hb hc hm
/-- x is None, x is not None -/
theorem isN_red {o : Op} {g : V → V} (hk : o.keeps = false) (hp : P1 Y W o (fun x H Q => Q (g x) H)) {r : R2} (hr : ∀ x H Q, Q (g x) H → r x .non H Q) {σ : L2.St} {H : Hp} {Q : VK} (h : rdE Y W U (.op o (.cons a' .nil)) σ H Q) :
    tOp r (rdX Y W U a') (tC .non) σ H Q := by
  obtain ⟨G, R, en, S, p⟩ := h
  refine ⟨G, R, en, S, ?_⟩
  rw [evE_op1] at p
  refine Pst.bind p fun x en1 v H1 G1 _ s1 k1 S1 o1 p1 => ?_
  exact hr v H1 Q (prim_fin hp S1 (vs := [v]) (avs := [x]) ⟨o1, trivial⟩ p1 hk v rfl)
theorem c_isN {j : Nat} {p2 : Pos} (ha : PE X a (rdX Y W U a')) : PE X (.Compare a [.Is] [.Constant .none j p2] pos) (rdE Y W U (.op .isN (.cons a' .nil))) :=
  (pe_cmpR op_isN ha pe_non rfl).imp fun _ _ _ q => isN_red (g := fun x => .bl (decide (x = .non))) rfl p_isN (fun _ _ _ h => ⟨rfl, h⟩) q
theorem c_notN {j : Nat} {p2 : Pos} (ha : PE X a (rdX Y W U a')) : PE X (.Compare a [.IsNot] [.Constant .none j p2] pos) (rdE Y W U (.op .notN (.cons a' .nil))) :=
  (pe_cmpR op_notN ha pe_non rfl).imp fun _ _ _ q => isN_red (g := fun x => .bl (!decide (x = .non))) rfl p_notN (fun _ _ _ h => ⟨rfl, h⟩) q
theorem rdT_of {m : E} {σ : L2.St} {H : Hp} {Q : Bool → Hp → Prop} (h : rdT Y W U m σ H Q) : rdE Y W U m σ H fun v H1 => ∃ c, v = .bl c ∧ Q c H1 := by
  obtain ⟨G, R, en, S, p⟩ := h
  exact ⟨G, R, en, S, toB_bind p⟩
theorem t_isN {j : Nat} {p2 : Pos} (ha : PE X a (rdX Y W U a')) : PT X (.Compare a [.Is] [.Constant .none j p2] pos) (rdT Y W U (.op .isN (.cons a' .nil))) :=
  (pt_cmpR op_isN ha pe_non rfl).imp fun _ _ _ q => isN_red (g := fun x => .bl (decide (x = .non))) rfl p_isN (fun _ _ _ h => ⟨rfl, h⟩) (rdT_of q)
theorem t_notN {j : Nat} {p2 : Pos} (ha : PE X a (rdX Y W U a')) : PT X (.Compare a [.IsNot] [.Constant .none j p2] pos) (rdT Y W U (.op .notN (.cons a' .nil))) :=
  (pt_cmpR op_notN ha pe_non rfl).imp fun _ _ _ q => isN_red (g := fun x => .bl (!decide (x = .non))) rfl p_notN (fun _ _ _ h => ⟨rfl, h⟩) (rdT_of q)
theorem t_chn {op op2 : CmpOp} {o o2 : Op} (h : CmpK X Y W op o) (h2 : CmpK X Y W op2 o2) (ha : PE X a (rdX Y W U a')) (hb : PE X b (rdX Y W U b')) (hc : PE X c (rdX Y W U c')) (hm : lastMarks [op, op2] [b, c] = false := by with_unfolding_all rfl) :
    PT X (.Compare a [op, op2] [b, c] pos) (rdT Y W U (.chn o o2 a' b' c')) := by
  obtain ⟨⟨r, h1, h2'⟩, hk⟩ := h
  obtain ⟨⟨r', h3, h4⟩, hk2⟩ := h2
  refine (pt_chain h1 h3 ha hb hc hm).imp fun σ H Q q => ?_
  obtain ⟨G, R, en, S, p⟩ := rdT_of q
  refine ⟨G, R, en, S, ?_⟩
  rw [evE] at p
  refine Pst.bind p fun x en1 v H1 G1 _ s1 k1 S1 o1 p1 => rd.mk S1 (Pst.bind p1 fun y en2 u H2 G2 _ s2 k2 S2 o2' p2 => ?_)
  have q : Pst Y W okB G2 R σ en2 (toB (opFin o [x, y] en2)) fun k H3 => if k = true then rdX Y W U c' σ H3 fun w H4 => r' u w H4 fun v H1 => ∃ c, v = .bl c ∧ Q c H1 else ∃ c, V.bl false = .bl c ∧ Q c H3 := by
    refine Pst.bind p2 fun k en3 k' H3 G3 _ s3 k3 S3 o3 p3 => ?_
    cases (show k' = k from o3)
    cases k with
    | true =>
      rw [if_pos rfl] at p3 ⊢
      exact rd.mk S3 (Pst.bind p3 fun z en4 w H4 G4 _ s4 k4 S4 o4 p4 => prim_fin h4 S4 (vs := [u, w]) (avs := [y, z]) ⟨Aok.mono (en := en3) (en' := en4) (Aok.mono (en' := en3) o2' s3) s4, o4, trivial⟩ p4 hk2 u w rfl)
    | false =>
      rw [if_neg (by decide)] at p3 ⊢
      exact p3 (.bl false) H3 G3 (Same.refl _) (Keep.refl _ _) S3 (.bl false)
  exact opB_fin hk h2' S2 (Aok.mono (en' := en2) o1 s2) o2' q
/-- and, or as a test -/
theorem t_pw {t : TT} (h : L2.PW X e t) : PT X e t := h.pt
/-- an argument that is evaluated -/
theorem x_e (h : PE X e (rdE Y W U a')) (hm : ∀ i, a' ≠ .pk i := by intro i z; cases z) : PE X e (rdX Y W U a') := x_of h hm
/-- a number of the module -/
theorem s_glbI {x : Str} {i : Int} (hm : ∃ t, X.mg x = some (.int i t)) (hg : Gl X x := by rfl) (hd : (x == ("__debug__" : Str)) = false := by decide) : PE X (.Name x pos) (rdE Y W U (.op (.glb (.int i)) .nil)) := by
  obtain ⟨t, ht⟩ := hm
  exact s_glb (v := .int i) hg ht ⟨t, rfl⟩ (fun _ => .int i) hd
/-! ### built-ins -/
theorem bt_len : bootBuiltins "len" = some (.builtin "len") := by decide +kernel
theorem bt_abs : bootBuiltins "abs" = some (.builtin "abs") := by decide +kernel
theorem bt_sum : bootBuiltins "sum" = some (.builtin "sum") := by decide +kernel
theorem bt_any : bootBuiltins "any" = some (.builtin "any") := by decide +kernel
theorem bt_all : bootBuiltins "all" = some (.builtin "all") := by decide +kernel
theorem bt_min : bootBuiltins "min" = some (.builtin "min") := by decide +kernel
theorem bt_max : bootBuiltins "max" = some (.builtin "max") := by decide +kernel
theorem bt_int : bootBuiltins "int" = some (.type "int") := by decide +kernel
theorem bt_tup : bootBuiltins "tuple" = some (.type "tuple") := by decide +kernel
theorem bt_lst : bootBuiltins "list" = some (.type "list") := by decide +kernel
theorem f_len (hK : X.K = Y.K) (hm : X.mg "len" = none) (ha : PE X a (rdX Y W U a')) (hg : Gl X "len" := by rfl) (he : starEach [a] X.env = (false, eval a X.env) :: starEach [] X.env := by rfl) : PE X (.Call (.Name "len" p) [a] [] pos) (rdE Y W U (.op .len (.cons a' .nil))) :=
  s_callB call_len_seq rfl (p_len hK) hm bt_len (a_cons ha a_nil he) hg (by decide) (by decide) he rfl
theorem f_abs (hm : X.mg "abs" = none) (ha : PE X a (rdX Y W U a')) (hg : Gl X "abs" := by rfl) (he : starEach [a] X.env = (false, eval a X.env) :: starEach [] X.env := by rfl) : PE X (.Call (.Name "abs" p) [a] [] pos) (rdE Y W U (.op .abs (.cons a' .nil))) :=
  s_callB call_abs rfl p_abs hm bt_abs (a_cons ha a_nil he) hg (by decide) (by decide) he rfl
theorem f_int (hm : X.mg "int" = none) (ha : PE X a (rdX Y W U a')) (hg : Gl X "int" := by rfl) (he : starEach [a] X.env = (false, eval a X.env) :: starEach [] X.env := by rfl) : PE X (.Call (.Name "int" p) [a] [] pos) (rdE Y W U (.op .int (.cons a' .nil))) :=
  s_callTy call_int1 rfl p_int hm bt_int (a_cons ha a_nil he) hg (by decide) (by decide) he rfl
theorem f_sum (hc : X.calm = true) (hK : X.K = Y.K) (hm : X.mg "sum" = none) (ha : PE X a (rdX Y W U a')) (hg : Gl X "sum" := by rfl) (he : starEach [a] X.env = (false, eval a X.env) :: starEach [] X.env := by rfl) : PE X (.Call (.Name "sum" p) [a] [] pos) (rdE Y W U (.op .sum (.cons a' .nil))) :=
  s_callB (cr_sumLT hc) rfl (p_sum hK) hm bt_sum (a_cons ha a_nil he) hg (by decide) (by decide) he rfl
theorem f_any (hc : X.calm = true) (hm : X.mg "any" = none) (ha : PE X a (rdX Y W U a')) (hg : Gl X "any" := by rfl) (he : starEach [a] X.env = (false, eval a X.env) :: starEach [] X.env := by rfl) : PE X (.Call (.Name "any" p) [a] [] pos) (rdE Y W U (.op .any (.cons a' .nil))) :=
  s_callB (cr_any hc) rfl p_any hm bt_any (a_cons ha a_nil he) hg (by decide) (by decide) he rfl
theorem f_all (hc : X.calm = true) (hm : X.mg "all" = none) (ha : PE X a (rdX Y W U a')) (hg : Gl X "all" := by rfl) (he : starEach [a] X.env = (false, eval a X.env) :: starEach [] X.env := by rfl) : PE X (.Call (.Name "all" p) [a] [] pos) (rdE Y W U (.op .all (.cons a' .nil))) :=
  s_callB (cr_all hc) rfl p_all hm bt_all (a_cons ha a_nil he) hg (by decide) (by decide) he rfl
theorem f_min (hc : X.calm = true) (hK : X.K = Y.K) (hm : X.mg "min" = none) (ha : PE X a (rdX Y W U a')) (hg : Gl X "min" := by rfl) (he : starEach [a] X.env = (false, eval a X.env) :: starEach [] X.env := by rfl) : PE X (.Call (.Name "min" p) [a] [] pos) (rdE Y W U (.op .min (.cons a' .nil))) :=
  s_callB (cr_minLT hc) rfl (p_min hK) hm bt_min (a_cons ha a_nil he) hg (by decide) (by decide) he rfl
theorem f_max (hc : X.calm = true) (hK : X.K = Y.K) (hm : X.mg "max" = none) (ha : PE X a (rdX Y W U a')) (hg : Gl X "max" := by rfl) (he : starEach [a] X.env = (false, eval a X.env) :: starEach [] X.env := by rfl) : PE X (.Call (.Name "max" p) [a] [] pos) (rdE Y W U (.op .max (.cons a' .nil))) :=
  s_callB (cr_maxLT hc) rfl (p_max hK) hm bt_max (a_cons ha a_nil he) hg (by decide) (by decide) he rfl
theorem f_tupOf (hK : X.K = Y.K) (hm : X.mg "tuple" = none) (ha : PE X a (rdX Y W U a')) (hg : Gl X "tuple" := by rfl) (he : starEach [a] X.env = (false, eval a X.env) :: starEach [] X.env := by rfl) : PE X (.Call (.Name "tuple" p) [a] [] pos) (rdE Y W U (.op .tupOf (.cons a' .nil))) :=
  s_callTy call_tuple_of rfl (p_tupOf hK) hm bt_tup (a_cons ha a_nil he) hg (by decide) (by decide) he rfl
theorem f_lstOf (hK : X.K = Y.K) (hm : X.mg "list" = none) (ha : PE X a (rdX Y W U a')) (hg : Gl X "list" := by rfl) (he : starEach [a] X.env = (false, eval a X.env) :: starEach [] X.env := by rfl) : PE X (.Call (.Name "list" p) [a] [] pos) (rdE Y W U (.op .lstOf (.cons a' .nil))) :=
  s_callTy call_list_of rfl (p_lstOf hK) hm bt_lst (a_cons ha a_nil he) hg (by decide) (by decide) he rfl
theorem f_min2 (hc : X.calm = true) (hm : X.mg "min" = none) (ha : PE X a (rdX Y W U a')) (hb : PE X b (rdX Y W U b')) (hg : Gl X "min" := by rfl) (he : starEach [a, b] X.env = (false, eval a X.env) :: starEach [b] X.env := by rfl) (he2 : starEach [b] X.env = (false, eval b X.env) :: starEach [] X.env := by rfl)
    (hpl : (backTo pos (starEach [b] X.env)).any (·.1) = false := by rfl) : PE X (.Call (.Name "min" p) [a, b] [] pos) (rdE Y W U (.op .min2 (.cons a' (.cons b' .nil)))) :=
  s_callB (call_min2 hc) rfl p_min2 hm bt_min (a_cons ha (a_cons hb a_nil he2) he) hg (by decide) (by decide) he hpl
theorem f_max2 (hc : X.calm = true) (hm : X.mg "max" = none) (ha : PE X a (rdX Y W U a')) (hb : PE X b (rdX Y W U b')) (hg : Gl X "max" := by rfl) (he : starEach [a, b] X.env = (false, eval a X.env) :: starEach [b] X.env := by rfl) (he2 : starEach [b] X.env = (false, eval b X.env) :: starEach [] X.env := by rfl)
    (hpl : (backTo pos (starEach [b] X.env)).any (·.1) = false := by rfl) : PE X (.Call (.Name "max" p) [a, b] [] pos) (rdE Y W U (.op .max2 (.cons a' (.cons b' .nil)))) :=
  s_callB (call_max2 hc) rfl p_max2 hm bt_max (a_cons ha (a_cons hb a_nil he2) he) hg (by decide) (by decide) he hpl
/-! ### enumerate, reversed -/
theorem i_enm {elts : List Expr} {kk : Nat} {tpos : Pos} (hK : X.K = Y.K) (hm : X.mg "enumerate" = none) (ha : PE X a (rdX Y W U a')) (hg : Gl X "enumerate" := by rfl) (hs : starEach [a] X.env = (false, eval a X.env) :: starEach [] X.env := by rfl) :
    PI X (.Tuple elts kk tpos) (.Call (.Name "enumerate" p) [a] [] pos) (rdI Y W U .enm (.cons a' .nil)) := by
  refine (pi_enumLT hg hm (a_cons ha a_nil hs) hs).imp fun σ H RR ⟨G, R, en, S, q⟩ => ⟨G, R, en, S, itFin_bind q fun G1 H1 en1 vs ds items s S1 r e f => ?_⟩
  match ds, e with
  | [.lst ds], e =>
    obtain ⟨v, rfl, hv⟩ := repL1 r
    cases hv with | lst h1 h2 =>
      cases e
      have hq : SqL Y.K G1 _ _ := .inl (.inl h1)
      exact ⟨_, _, rfl, .inl ⟨by rw [hK]; exact S1.gH.seq hq, by rw [hK]; exact f _ (gives_enm hq h2)⟩⟩
  | [.tup ds], e =>
    obtain ⟨v, rfl, hv⟩ := repL1 r
    cases hv with | tup h1 h2 =>
      cases e
      exact ⟨_, _, rfl, .inr ⟨by rw [hK]; exact Same.seqT S1.gH h1, by rw [hK]; exact f _ (gives_enmT h1 h2)⟩⟩
  | [], e => cases e
  | [.non], e | [.bl _], e | [.int _], e | [.str _], e | [.fls _], e | [.dct _ _], e | [.set _], e | [.obj _ _ _], e | [.exc _ _ _], e | [.thk _ _], e => cases e
  | z :: _ :: _, e => cases z <;> cases e
end
end L3

/-! L3Q: what a law's file asks. -/
namespace L3
open PySem PySem.Spec PyProof.Rows L2
theorem _root_.L2.Room.u69 {k : Nat} {A : Around} (r : Room k A) : A.units + 69 < cLine := by have := r.un; omega
theorem u64 {u : Nat} (h : u + 69 < cLine) : u + 64 < cLine := by omega
theorem u65 {u : Nat} (h : u + 69 < cLine) : u + 65 < cLine := by omega
/-- a def as its callers see it -/
structure DefOk (K : PySem.W.Frag) (mg : Str → Option Value) (x : Str) (at_ : Str × Option Str) (ps : List Str) : Prop where
  hm : mg x = some (.ref (He.fAd K at_))
  hk : PySem.W.keepIn K (.ref (He.fAd K at_)) = true
  hb : Binds K (fdOf K at_) ps []
section
variable {X : Cx} {Y : Wd} {W : WX} {U : Ev}
theorem s_callD {f k : Nat} {at_ : Str × Option Str} {ps : List Str} {x : Str} {p pos : Pos} {e : Expr} {es : List Expr} {as' : Es} (F : FnOk X.prog X.w X.K X.mg X.base (L2.CX X.prog X.w) k (He.fAd X.K at_) (fdOf X.K at_) ps (spF Y (U.C f))) (D : DefOk X.K X.mg x at_ ps) (hr : Room k X.A) (tk : Takes X W)
    (ha : PA X (e :: es) (rdA Y W U as')) (hg : Gl X x := by rfl) (hdb : (x == ("__debug__" : Str)) = false := by decide) (he : starEach (e :: es) X.env = (false, eval e X.env) :: starEach es X.env := by rfl) (hpl : (backTo pos (starEach es X.env)).any (·.1) = false := by rfl) :
    PE X (.Call (.Name x p) (e :: es) [] pos) (rdE Y W U (.call f as')) := s_call F hr D.hm D.hk D.hb tk ha hg hdb he hpl
/-- the def that tries, as its callers see it -/
structure WordOk (K : PySem.W.Frag) (mg : Str → Option Value) (x : Str) (g : Addr) (pg : Arguments) (bg : List Stmt) (sg : Scope) (a : Str) : Prop where
  hm : mg x = some (.ref g)
  hk : PySem.W.keepIn K (.ref g) = true
  ex : ∃ (oc : Value) (od : Option Addr) (dV kV doc pm : Value) (an : Option Addr) (cdv ct : Value) (osl : Array (Option Value)), K.lookup g = some ⟨oc, od, .func (PySem.W.fnOf x x pg bg sg dV kV doc pm an cdv ct), osl⟩ ∧ PySem.W.codeIn K cdv x = true ∧ Binds K (PySem.W.fnOf x x pg bg sg dV kV doc pm an cdv ct) [a] []
theorem WordOk.of {K : PySem.W.Frag} {mg : Str → Option Value} {x : Str} {at_ : Str × Option Str} {pg : Arguments} {bg : List Stmt} {sg : Scope} {a : Str} (F : FunD K x x pg bg sg [] [] (He.fAd K at_) (fdOf K at_)) (D : DefOk K mg x at_ [a]) : WordOk K mg x (He.fAd K at_) pg bg sg a := by
  obtain ⟨oc, od, dV, kV, doc, pm, an, cdv, ct, osl, e, lk, hcd, _, _⟩ := F.ex
  have hb := D.hb
  rw [e] at lk hb
  exact ⟨D.hm, D.hk, oc, od, dV, kV, doc, pm, an, cdv, ct, osl, lk, hcd, hb⟩
theorem hu_of {T : List (Addr × Str)} {P : Addr} {q : Str} : (T.map (·.1)).Nodup → (P, q) ∈ T → ∀ p ∈ T, p.1 = P → p.2 = q := fun nd hm p hp e => by
  induction T with
  | nil => cases hm
  | cons t T ih =>
    rw [List.map_cons, List.nodup_cons] at nd
    rcases List.mem_cons.mp hm with h1 | h1
    · rcases List.mem_cons.mp hp with h2 | h2
      · rw [h2, ← h1]
      · exact absurd (List.mem_map.mpr ⟨p, h2, by rw [e, ← h1]⟩) nd.1
    · rcases List.mem_cons.mp hp with h2 | h2
      · exact absurd (List.mem_map.mpr ⟨(P, q), h1, by rw [← h2, e]⟩) nd.1
      · exact ih nd.2 h1 h2
theorem s_lamD {f : Nat} {e' : E} {x a : Str} {g c P : Addr} {k : Nat} {pg : Arguments} {bg : List Stmt} {sg : Scope} {Ng : List Str} {params : Arguments} {body : Expr} {scope : Scope} {p lpos pos : Pos}
    (D : WordOk X.K X.mg x g pg bg sg a) (Sg : FnScope Ng [a] sg) (hG : ∀ cdv, (∀ args, U.C f args = .bad) ∨ LamX.GivesTo X Ng x sg g cdv bg a (X.env.qual ++ "<lambda>") (TTw Y (U.C f)))
    (TB : LamX.TabB X.base X.mg c P) (hcode : X.env.code = .ref c) (hmT : (P, X.env.qual ++ "<lambda>") ∈ Y.T) (nd : (Y.T.map (·.1)).Nodup) (hr : Room (k + 2) X.A)
    (hbody : ∀ (A : Around) (outer : List Env) (s : Shared) (H : Hp) (E : XK) (f c' : Addr), Room k (A.deeper (LamX.lamEnv X scope s.heap.objs.size f c')) → PE (LamX.lamCx X A outer s H E scope f c') body (rdE Y (wE E) U e'))
    (hg : Gl X x := by rfl) (hNg : Ng[0]? = some a := by rfl) (hva : Vis sg a := by first | exact Or.inl rfl | exact Or.inr (Or.inl rfl) | exact Or.inr (Or.inr rfl)) (L : LamX.lamSB X.env.scope scope = true := by rfl) (hdef : defaultsOf params X.env = ([], []) := by rfl)
    (hbind : ∀ (q : Str) (cl : List (Str × Addr)) (pm cv ctv : Value), bindArgs (PySem.W.kla_fn "<lambda>" q params body scope cl pm cv ctv) ⟨[], []⟩ = pure [] := by intro _ _ _ _ _; rfl)
    (hdb : (x == ("__debug__" : Str)) = false := by decide) (hd : (a == ("__debug__" : Str)) = false := by decide) (hcd : (a == ("__classdict__" : Str)) = false := by decide) :
    PE X (.Call (.Name x p) [.Lambda params body scope lpos] [] pos) (rdE Y W U (.lam f e')) := by
  obtain ⟨oc, od, dV, kV, doc, pm, an, cdv, ct, osl, lk, hcg, hb⟩ := D.ex
  exact s_lam hg D.hm D.hk lk hcg hb Sg hNg hva (hG cdv) TB hcode hmT (hu_of nd hmT) hr (LamX.lamS_by L) hdef hbind hbody hdb hd hcd
end
/-- a def that is never reached -/
theorem bad_ok {P : Program} {w : World} {K : PySem.W.Frag} {mg : Str → Option Value} {base : Heap} {Y : Wd} {x qual : Str} {params : Arguments} {body : List Stmt} {scope : Scope} {f : Addr} {fd : FuncData} {N ps : List Str} {k i wf : Nat} {T : List Fn}
    (F : FunD K x qual params body scope [] [] f fd) (S : FnScope N ps scope) : FnOk P w K mg base (L2.CX P w) (k + 1) f fd ps (spF Y (callD T wf 0 i)) := by
  have no : ∀ vs H Q E, spF Y (callD T wf 0 i) vs H Q E → False := fun vs H Q E ⟨G, R, args, _, p⟩ => p
  exact F.ok S (fun vs H Q E h => (no _ _ _ _ h).elim) fun cdv A outer s H vs Q E hr h => (no _ _ _ _ h).elim
/-- no class of instances -/
theorem isC0 {Y : Wd} {K : PySem.W.Frag} (h : ∀ c, ¬ Y.ok c) : IsC Y K := ⟨fun c hc => (h c hc).elim, fun _ c _ hc => (h c hc).elim, fun c _ hc => (h c hc).elim, fun c _ hc => (h c hc).elim⟩
theorem fdOf_is {K : PySem.W.Frag} {d : He.DefD} {fd : FuncData} (F : FunD K d.name d.qual d.params d.body d.scope (d.dvs K) (d.kws K) (He.fAd K d.at_) fd) : FunD K d.name d.qual d.params d.body d.scope (d.dvs K) (d.kws K) (He.fAd K d.at_) (fdOf K d.at_) := by
  rw [fdOf_eq F]; exact F
theorem nmi {X : Cx} {i : Nat} {x : Str} (h1 : X.N[i]? = some x := by rfl) (h2 : Loc X.env.scope x := by first | exact Or.inl rfl | exact Or.inr rfl) (h3 : X.fn x = true ∨ X.env.scope.names.lookup x = some .local := by first | exact Or.inl rfl | exact Or.inr rfl) : NmI X i x := ⟨h1, h2, h3⟩
end L3

/-! L3T: more operations: {}, sorted. -/
namespace L3
open PySem PySem.Spec PyProof.Rows L2
section
variable {X : Cx} {Y : Wd} {W : WX} {U : Ev} {a b c e : Expr} {a' b' c' : E} {pos p : Pos}
theorem s_dnew : PE X (.Dict [] [] pos) (rdE Y W U (.op .dnew .nil)) := pe_dnewK.imp fun σ H Q ⟨G, R, en, S, q⟩ => by
  rw [evE_op, evA] at q
  exact prim_fin (p_dnew (Y := Y) (W := W)) S (vs := []) (avs := []) trivial q rfl
theorem insI_perm (x : Int) : ∀ l : List Int, (insI x l).Perm (x :: l)
  | [] => .refl _
  | y :: r => by
    unfold insI
    split
    · exact .refl _
    · exact ((insI_perm x r).cons y).trans (.swap x y r)
theorem sortI_perm : ∀ l : List Int, (sortI l).Perm l
  | [] => .refl _
  | x :: r => (insI_perm x (sortI r)).trans ((sortI_perm r).cons x)
theorem insI_sorted (x : Int) : ∀ l : List Int, l.Pairwise (· ≤ ·) → (insI x l).Pairwise (· ≤ ·)
  | [], _ => by simp [insI]
  | y :: r, h => by
    unfold insI
    rw [List.pairwise_cons] at h
    split
    · rename_i hxy
      rw [List.pairwise_cons]
      refine ⟨fun z hz => ?_, List.pairwise_cons.mpr h⟩
      rcases List.mem_cons.mp hz with rfl | hz
      · exact hxy
      · exact Int.le_trans hxy (h.1 z hz)
    · rename_i hxy
      rw [List.pairwise_cons]
      refine ⟨fun z hz => ?_, insI_sorted x r h.2⟩
      rcases List.mem_cons.mp ((insI_perm x r).mem_iff.mp hz) with rfl | hz
      · omega
      · exact h.1 z hz
theorem sortI_sorted : ∀ l : List Int, (sortI l).Pairwise (· ≤ ·)
  | [] => .nil
  | x :: r => insI_sorted x _ (sortI_sorted r)
/-- what is sorted, is one -/
theorem sorted_one : ∀ {l m : List Int}, l.Perm m → l.Pairwise (· ≤ ·) → m.Pairwise (· ≤ ·) → l = m := fun h1 h2 h3 => h1.eq_of_pairwise (fun a b _ _ h4 h5 => Int.le_antisymm h4 h5) h2 h3
theorem bt_srt : bootBuiltins "sorted" = some (.builtin "sorted") := by decide +kernel
theorem p_srt (hK : X.K = Y.K) : PrimN Y W .srt (rSortedLT X.K) := C1.seq hK (fun _ => rfl) fun G R H σ en a vs ds p Q S h r e pq => by
  cases q : asI ds with
  | none => rw [q] at e; cases e
  | some is =>
    rw [q] at e
    cases e
    have ev := r.asI q
    subst ev
    refine ⟨a, is, rfl, h, fun ns' p hp hs hn => ?_⟩
    have : ns' = sortI is := sorted_one (hp.trans (sortI_perm is).symm) hs (sortI_sorted is)
    subst this
    exact fin_own S pq hn (.lst upd_same (RepL.ofInts _))
theorem f_srt (hK : X.K = Y.K) (hm : X.mg "sorted" = none) (ha : PE X a (rdX Y W U a')) (hg : Gl X "sorted" := by rfl) (he : starEach [a] X.env = (false, eval a X.env) :: starEach [] X.env := by rfl) : PE X (.Call (.Name "sorted" p) [a] [] pos) (rdE Y W U (.op .srt (.cons a' .nil))) :=
  s_callB cr_sortedLT rfl (p_srt hK) hm bt_srt (a_cons ha a_nil he) hg (by decide) (by decide) he rfl
/-! ### x in l, x not in l: lists and tuples of data -/
def rInX (K : PySem.W.Frag) (neg : Bool) : R2 := fun x y H Q => ∃ (d : PyData) (ds : List PyData), Dp K H x d ∧ (Dp K H y (.list ds) ∨ Dp K H y (.tuple ds)) ∧ SeqAt.shaped d = true ∧ SeqAt.shaped (.list ds) = true ∧ Q (.bl (if neg then !(ds.any fun z => PyData.eqv z d) else ds.any fun z => PyData.eqv z d)) H
theorem op_inX (hu : X.A.units + 65 < cLine) : OpR X (compareOp .In) (rInX X.K false) := by
  intro pins s σ H x y v u Q I rx ry ⟨d, ds, hd, he, sd, se, q⟩
  obtain ⟨as, r1⟩ := Dp.reads I d x v hd rx
  rcases he with he | he
  · obtain ⟨bs, r2⟩ := Dp.reads I (.list ds) y u he ry
    exact SeqAt.in_list_reads r2 r1 (SeqAt.canLay_of_shaped se) (SeqAt.canLay_of_shaped sd) (room_in_shaped sd hu) ⟨.bl _, H, I, rfl, q⟩
  · obtain ⟨bs, r2⟩ := Dp.reads I (.tuple ds) y u he ry
    exact SeqAt.in_tuple_reads r2 r1 (SeqAt.canLay_of_shaped se) (SeqAt.canLay_of_shaped sd) (room_in_shaped sd hu) ⟨.bl _, H, I, rfl, q⟩
theorem op_ninX (hu : X.A.units + 65 < cLine) : OpR X (compareOp .NotIn) (rInX X.K true) := by
  intro pins s σ H x y v u Q I rx ry ⟨d, ds, hd, he, sd, se, q⟩
  obtain ⟨as, r1⟩ := Dp.reads I d x v hd rx
  rcases he with he | he
  · obtain ⟨bs, r2⟩ := Dp.reads I (.list ds) y u he ry
    exact SeqAt.notIn_list_reads r2 r1 (SeqAt.canLay_of_shaped se) (SeqAt.canLay_of_shaped sd) (room_in_shaped sd hu) ⟨.bl _, H, I, rfl, q⟩
  · obtain ⟨bs, r2⟩ := Dp.reads I (.tuple ds) y u he ry
    exact SeqAt.notIn_tuple_reads r2 r1 (SeqAt.canLay_of_shaped se) (SeqAt.canLay_of_shaped sd) (room_in_shaped sd hu) ⟨.bl _, H, I, rfl, q⟩
theorem inP_some {x y : D} {b : Bool} (e : inP x y = some b) : ∃ q qs, toPy x = some q ∧ (toPy y = some (.list qs) ∨ toPy y = some (.tuple qs)) ∧ SeqAt.shaped q = true ∧ SeqAt.shaped (.list qs) = true ∧ b = qs.any fun z => PyData.eqv z q := by
  unfold inP at e
  split at e
  · rename_i q qs e1 e2
    split at e
    · rename_i h
      cases e
      obtain ⟨h1, h2⟩ := Bool.and_eq_true_iff.mp h
      exact ⟨q, qs, e1, .inl e2, h2, h1, rfl⟩
    · cases e
  · rename_i q qs e1 e2
    split at e
    · rename_i h
      cases e
      obtain ⟨h1, h2⟩ := Bool.and_eq_true_iff.mp h
      exact ⟨q, qs, e1, .inr e2, h2, h1, rfl⟩
    · cases e
  · cases e
theorem p_inn (hK : X.K = Y.K) : P2 Y W .inn (rInX X.K false) := .mk fun G R H σ en x y ds p Q S hp e pq => by
  match ds, hp, e with
  | [d, d'], hp, e =>
    obtain ⟨k1, k2, _⟩ := hp
    obtain ⟨b, e1, rfl⟩ := oB_some (show oB (inP d d') = some p from e)
    obtain ⟨q, qs, h1, h2, h3, h4, rfl⟩ := inP_some e1
    exact ⟨q, qs, k1.dp hK S h1, h2.elim (fun h => .inl (k2.dp hK S h)) (fun h => .inr (k2.dp hK S h)), h3, h4, fin_sh S pq (.bl _)⟩
  | [], hp, _ => exact hp.elim
  | [_], hp, _ => exact hp.2.elim
  | _ :: _ :: _ :: _, hp, _ => exact hp.2.2.elim
theorem p_nin (hK : X.K = Y.K) : P2 Y W .nin (rInX X.K true) := .mk fun G R H σ en x y ds p Q S hp e pq => by
  match ds, hp, e with
  | [d, d'], hp, e =>
    obtain ⟨k1, k2, _⟩ := hp
    obtain ⟨b, e1, rfl⟩ := oB_some (show oB ((inP d d').map (! ·)) = some p from e)
    obtain ⟨c, e2, rfl⟩ := map_some e1
    obtain ⟨q, qs, h1, h2, h3, h4, rfl⟩ := inP_some e2
    exact ⟨q, qs, k1.dp hK S h1, h2.elim (fun h => .inl (k2.dp hK S h)) (fun h => .inr (k2.dp hK S h)), h3, h4, fin_sh S pq (.bl _)⟩
  | [], hp, _ => exact hp.elim
  | [_], hp, _ => exact hp.2.elim
  | _ :: _ :: _ :: _, hp, _ => exact hp.2.2.elim
theorem k_inn (hK : X.K = Y.K) (hu : X.A.units + 65 < cLine) : CmpK X Y W .In .inn := ⟨⟨_, op_inX hu, p_inn hK⟩, rfl⟩
theorem k_nin (hK : X.K = Y.K) (hu : X.A.units + 65 < cLine) : CmpK X Y W .NotIn .nin := ⟨⟨_, op_ninX hu, p_nin hK⟩, rfl⟩
end
end L3

/-! L3V: t[::-1] of a tuple. -/
namespace HT
open PySem PySem.Spec PySem.Calls PyProof.Rows
section
variable {prog : Program} {w : World} {A : Around} {E : Value → Shared → Prop} {s : Shared}
theorem rev_adjust (n : Nat) : Builtin.Slice.sliceAdjust none none (-1) (n : Int) = ((n : Int) - 1, -1) := by
  unfold Builtin.Slice.sliceAdjust
  simp
theorem rev_places (n : Nat) : Builtin.Slice.slicePlaces ((n : Int) - 1) (-1) (-1) = n := by
  unfold Builtin.Slice.slicePlaces
  simp
  omega
theorem rev_applied {sl : Addr} {vl vu vs : Value} {n : Nat} {Q : Int × Int × Nat → Shared → Prop} (hs : s.heap.IsSliceOf sl vl vu vs) (pl : IsPart vl none) (pu : IsPart vu none) (ps : IsPart vs (some (-1)))
    (h : Q ((n : Int) - 1, -1, n) s) : wpAny (model prog w) A (Builtin.Slice.sliceApplied (.ref sl) (pure (n : Int))) Q E s := by
  obtain ⟨os, hos, hcs, hds⟩ := id hs
  unfold Builtin.Slice.sliceApplied Builtin.Slice.sliceFields
  refine wpAny_bind (wpAny_bind (wpAny_field hos hds (x := vl) rfl (wpAny_bind (wpAny_field hos hds (x := vu) rfl (wpAny_bind (wpAny_field hos hds (x := vs) rfl (wpAny_pure ?_)))))))
  refine wpAny_bind (slicePart_ ps ?_)
  show wpAny _ _ (if ((-1 : Int) == 0) = true then _ else _) _ _ s
  rw [if_neg (by decide)]
  refine wpAny_bind (slicePart_ pl (wpAny_bind (slicePart_ pu (wpAny_bind (wpAny_pure ?_)))))
  show wpAny _ _ (match Builtin.Slice.sliceAdjust none none (-1) (n : Int) with | (lo, hi) => pure (lo, (-1 : Int), Builtin.Slice.slicePlaces lo hi (-1))) _ _ s
  rw [rev_adjust]
  show wpAny _ _ (pure ((n : Int) - 1, (-1 : Int), Builtin.Slice.slicePlaces ((n : Int) - 1) (-1) (-1))) _ _ s
  rw [rev_places]
  exact wpAny_pure h
theorem rev_pick (xs : Array Value) : ((List.range xs.size).filterMap fun (m : Nat) => xs[(((xs.size : Int) - 1) + (m : Int) * (-1)).toNat]?).toArray = xs.toList.reverse.toArray := by
  congr 1
  apply List.ext_getElem?
  intro i
  have key : ∀ k, k ≤ xs.size → (List.range k).filterMap (fun (m : Nat) => xs[(((xs.size : Int) - 1) + (m : Int) * (-1)).toNat]?) = (xs.toList.reverse).take k := by
    intro k
    induction k with
    | zero => intro _; simp
    | succ k ih =>
      intro hk
      rw [List.range_succ, List.filterMap_append, ih (by omega)]
      have e1 : (((xs.size : Int) - 1) + (k : Int) * (-1)).toNat = xs.size - 1 - k := by omega
      have e2 : xs[(((xs.size : Int) - 1) + (k : Int) * (-1)).toNat]? = some xs[xs.size - 1 - k] := by
        rw [e1]; exact Array.getElem?_eq_getElem (by omega)
      rw [List.filterMap_cons, e2]
      have e3 : k < xs.toList.reverse.length := by simp; omega
      rw [List.take_succ_eq_append_getElem e3]
      simp
  rw [key _ (Nat.le_refl _), List.take_of_length_le (by simp)]
theorem getItem_tuple_rev {t sl : Addr} {items : Array Value} {vl vu vs : Value} {Q : Value → Shared → Prop} (ht : IsTup s.heap t items) (hs : s.heap.IsSliceOf sl vl vu vs) (pl : IsPart vl none) (pu : IsPart vu none) (ps : IsPart vs (some (-1)))
    (h : Q (.ref s.heap.objs.size) { s with heap := s.heap.push { cls := .type "tuple", data := .seq items.toList.reverse.toArray } }) (hsz : items.size ≤ sizeLine) : wpAny (model prog w) A (getItem (.ref t) (.ref sl)) Q E s := by
  have htake : sizeOk (.seq items.toList.reverse.toArray) := by
    show items.toList.reverse.toArray.size ≤ sizeLine
    rw [List.size_toArray, List.length_reverse, Array.length_toList]
    exact hsz
  obtain ⟨os, hos, hcs, hds⟩ := id hs
  have hTs : s.TypeIs (.ref sl) "slice" := ⟨os, hos, hcs⟩
  unfold getItem
  try with_reducible refine wpAny_holding ?_
  first | refine wpAny_bind (wpAny_pure ?_) | skip
  refine wpAny_bind (wpAny_sequenceKey ht.typeIs (by decide) ?_)
  refine wpAny_bind (wpAny_callSpecial?_slot (name := Str.ofString "__getitem__") ht.typeIs PyProof.Rows.slot_tuple_getitem
    (wpAny_call_entry PyProof.Rows.slot_tuple_getitem ht.typeIs entry_tuple_getitem ?_ (args_tuple_getitem _ _)))
  show wpAny _ _ (Builtin.Tuple.tupleItemsOf (.ref t) >>= _) _ _ s
  refine wpAny_bind (tupleItemsOf_ ht ?_)
  refine wpAny_bind (wpAny_typeOf hTs ?_)
  rw [if_pos (by decide)]
  refine wpAny_bind (rev_applied hs pl pu ps ?_)
  have hno : ¬ ((((items.size : Int) - 1) == 0 && (-1 : Int) == 1 && items.size == items.size) = true) := by
    intro q
    rw [Bool.and_eq_true, Bool.and_eq_true] at q
    exact absurd q.1.2 (by decide)
  show wpAny _ _ (if (((items.size : Int) - 1) == 0 && (-1 : Int) == 1 && items.size == items.size) = true then _ else _) _ _ s
  rw [if_neg hno, rev_pick]
  first
    | exact wpAny_bind (m := Builtin.Tuple.tupleExact _) (wpAny_newObj_type (wpAny_pure ⟨_, rfl, wpAny_pure h⟩) htake)
    | exact wpAny_bind (m := Builtin.Tuple.tupleExact _) (wpAny_newObj_type (wpAny_bind (wpAny_pure (wpAny_pure ⟨_, rfl, wpAny_pure h⟩))) htake)
    | exact wpAny_bind (wpAny_bind (m := Builtin.Tuple.tupleExact _) (wpAny_newObj_type (wpAny_pure (wpAny_pure ⟨_, rfl, wpAny_pure h⟩)) htake))
    | exact wpAny_bind (wpAny_bind (m := Builtin.Tuple.tupleExact _) (wpAny_newObj_type (wpAny_pure ⟨_, rfl, wpAny_pure h⟩) htake))
end
end HT
namespace L3
open PySem PySem.Spec PyProof.Rows L2
section
variable {X : Cx} {Y : Wd} {W : WX} {U : Ev} {e : Expr} {a' : E}
def tRevX (K : PySem.W.Frag) (te : TE) : TE := fun σ H Q => te σ H fun x H1 => ∃ a xs, x = .ref a ∧ ((SqL K H1 a xs ∧ ∀ p, H1 p = none → Q (.ref p) (upd H1 p (.lst xs.reverse))) ∨ (SqT K H1 a xs ∧ ∀ p, H1 p = none → Q (.ref p) (upd H1 p (.tup xs.reverse))))
theorem pe_revX {te : TE} {k : Nat} {p1 p2 p3 pos : Pos} (he : PE X e te) : PE X (.Subscript e (.Slice none none (some (.UnaryOp .USub (.Constant (.int 1) k p1) p2)) p3) pos) (tRevX X.K te) := by
  refine ⟨fun pins s σ H Q I h => ?_⟩
  refine Subscript_ (thn (he.run pins s σ H _ I h) fun v s1 ⟨x, H1, I1, r1, q1⟩ => ?_)
  obtain ⟨a, xs, ex, q⟩ := q1
  subst ex
  cases r1
  have hst : PO X (some (.UnaryOp .USub (.Constant (.int 1) k p1) p2)) (tPart (tUn (rU fun i => .int (-i)) (tC (.int 1)))) := po_some (pe_un un_neg pe_int)
  refine wpAny_Slice (thn (po_none.run pins s1 σ H1 (fun o H2 => o = none ∧ H2 = H1) I1 ⟨rfl, rfl⟩) fun vl s2 ⟨l, H2, I2, pl, el, e2⟩ => ?_)
  subst el e2
  refine thn (po_none.run pins s2 σ H2 (fun o H3 => o = none ∧ H3 = H2) I2 ⟨rfl, rfl⟩) fun vu s3 ⟨u, H3, I3, pu, eu, e3⟩ => ?_
  subst eu e3
  refine thn (hst.run pins s3 σ H3 (fun o H4 => o = some (-1) ∧ H4 = H3) I3 ⟨1, rfl, -1, rfl, rfl, rfl⟩) fun vs s4 ⟨o, H4, I4, ps, eo, e4⟩ => ?_
  subst eo e4
  have I5 : Inv X pins σ H4 { s4 with heap := s4.heap.push { cls := .type "slice", data := .fields #[vl, vu, vs] } } := I4.kept (t' := s4.toks) fun b ob q => Heap.get?_push_of_some _ q
  show wpAny (model X.prog X.w) X.A (subscriptTail e (.Slice none none (some (.UnaryOp .USub (.Constant (.int 1) k p1) p2)) p3) (.ref a) (.ref s4.heap.objs.size)) (EP X pins σ Q) X.xe { s4 with heap := s4.heap.push { cls := .type "slice", data := .fields #[vl, vu, vs] } }
  rcases q with ⟨hx, q⟩ | ⟨hx, q⟩
  · obtain ⟨its, r, ht, hz⟩ := I5.list hx
    have hlen := r.length
    refine tail_any (ops := [.ref a, .ref s4.heap.objs.size]) ht.isList.typeIs (PySem.slot_list_getitem.lookup) ?_ (by with_unfolding_all rfl)
    refine wpAny_getItem_list_slice ht.isList (Heap.IsSliceOf.new _ vl vu vs) pl pu ps (by decide) ?_ (by rw [List.size_toArray]; omega)
    rw [PySem.W.krv_pick]
    refine ⟨.ref _, _, I5.laid (t' := s4.toks) (o := .lst xs.reverse) (fun b ob q => Heap.get?_push_of_some _ q) (Nat.le_refl _) ?_, rfl, q _ (I5.hok.fresh (Nat.le_refl _))⟩
    exact ⟨by rw [List.length_reverse]; exact hz, _, 0, r.reverse, Heap.get?_push_size _ rfl⟩
  · obtain ⟨its, r, ht, hz⟩ := I5.tuple hx
    have hlen := r.length
    refine tail_any (ops := [.ref a, .ref s4.heap.objs.size]) ht.typeIs (PyProof.Rows.slot_tuple_getitem.lookup) ?_ (by with_unfolding_all rfl)
    refine HT.getItem_tuple_rev ht (Heap.IsSliceOf.new _ vl vu vs) pl pu ps ?_ (by rw [List.size_toArray]; omega)
    refine ⟨.ref _, _, I5.laid (t' := s4.toks) (o := .tup xs.reverse) (fun b ob q => Heap.get?_push_of_some _ q) (Nat.le_refl _) ?_, rfl, q _ (I5.hok.fresh (Nat.le_refl _))⟩
    exact ⟨by rw [List.length_reverse]; exact hz, _, r.reverse, IsTup.new _ _⟩
theorem s_revs (hK : X.K = Y.K) {k : Nat} {p1 p2 p3 pos : Pos} (ha : PE X e (rdX Y W U a')) : PE X (.Subscript e (.Slice none none (some (.UnaryOp .USub (.Constant (.int 1) k p1) p2)) p3) pos) (rdE Y W U (.op .revs (.cons a' .nil))) := by
  refine (pe_revX ha).imp fun σ H Q ⟨G, R, en, S, p⟩ => ⟨G, R, en, S, ?_⟩
  rw [evE_op1] at p
  refine Pst.bind p fun y en1 v H1 G1 _ s1 k1 S1 o1 p1 => ?_
  unfold opFin at p1
  split at p1
  · exact p1.elim
  · rename_i ds e1
    obtain ⟨d, e2, rfl⟩ := avDs_1 (show avDs en1 [y] = some ds from e1)
    have pk := pk_of S1 o1 e2
    split at p1
    · rename_i q e3
      obtain ⟨d', e4, e5⟩ := a1_some (show a1 rRev3 [d] = some q from e3)
      cases e4
      cases d with
      | tup xs =>
        cases e5
        obtain ⟨a, vs, rfl, h1, h2⟩ := pk.tup
        exact ⟨a, vs, rfl, .inr ⟨by rw [hK]; exact Same.seqT S1.gH h1, fun p hp => fin_newG S1 p1 hp (.tup (.inl (.inl upd_same)) (h2.reverse.mono (same_new (S1.gnone hp))))⟩⟩
      | lst xs =>
        cases e5
        obtain ⟨a, vs, rfl, h1, h2⟩ := pk.lst S1
        exact ⟨a, vs, rfl, .inl ⟨.inl (.inl h1), fun p hp => fin_own S1 p1 hp (.lst upd_same h2.reverse)⟩⟩
      | fls xs =>
        cases e5
        rcases pk with h | ⟨_, _, t⟩
        · cases h with | fls h1 h2 =>
            exact ⟨_, _, rfl, .inl ⟨by rw [hK]; exact S1.gH.seq h1, fun p hp => fin_own S1 p1 hp (.lst upd_same h2.reverse)⟩⟩
        · cases t
      | _ => cases e5
    · exact p1.elim
/-! ### x is True -/
theorem p_isb : P2 Y W .isb (fun x y H Q => ∃ a b, x = .bl a ∧ y = .bl b ∧ Q (.bl (decide (a = b))) H) := .mk fun G R H σ en x y ds p Q S hp e pq => by
  match ds, hp, e with
  | [.bl a, .bl b], hp, e =>
    obtain ⟨k1, k2, _⟩ := hp
    cases e
    exact ⟨a, b, k1.bl, k2.bl, fin_sh S pq (.bl _)⟩
  | [], hp, _ => exact hp.elim
  | [_], hp, _ => exact hp.2.elim
  | _ :: _ :: _ :: _, hp, _ => exact hp.2.2.elim
theorem p_nsb : P2 Y W .nsb (fun x y H Q => ∃ a b, x = .bl a ∧ y = .bl b ∧ Q (.bl (!decide (a = b))) H) := .mk fun G R H σ en x y ds p Q S hp e pq => by
  match ds, hp, e with
  | [.bl a, .bl b], hp, e =>
    obtain ⟨k1, k2, _⟩ := hp
    cases e
    exact ⟨a, b, k1.bl, k2.bl, fin_sh S pq (.bl _)⟩
  | [], hp, _ => exact hp.elim
  | [_], hp, _ => exact hp.2.elim
  | _ :: _ :: _ :: _, hp, _ => exact hp.2.2.elim
theorem k_isb : CmpK X Y W .Is .isb := ⟨⟨_, op_is_bl, p_isb⟩, rfl⟩
theorem k_nsb : CmpK X Y W .IsNot .nsb := ⟨⟨_, op_isnot_bl, p_nsb⟩, rfl⟩
/-! ### {k: x} -/
theorem s_dsp1 {ke v : Expr} {k : Key} {v' : E} {pos : Pos} (hk : PE X ke (tC (kV k))) (hv : PE X v (rdX Y W U v')) : PE X (.Dict [some ke] [v] pos) (rdE Y W U (.op (.dsp1 k) (.cons v' .nil))) := by
  refine (pe_disp (pps_cons hk hv pps_nil) rfl rfl (by simp) (show 1 ≤ 15 by decide)).imp fun σ H Q ⟨G, R, en, S, p⟩ q hq => ?_
  rw [evE_op1] at p
  have S' : Sep Y G (upd R q (.dK [])) (upd H q (.dK [])) σ en := (S.new hq).reserve upd_same (S.gnone hq) (S.freeNew hq)
  refine rd.mk S' (Pst.bindR (same_new (S.rnone hq)) p fun av en1 y H2 G2 _ s k2 S2 o2 p2 => ?_)
  have hH : H2 q = some (.dK []) := S2.rH _ _ upd_same
  refine ⟨hH, [(k, y)], rfl, (by decide : 1 ≤ 15), ?_⟩
  unfold opFin at p2
  split at p2
  · exact p2.elim
  · rename_i ds e1
    cases av with
    | p i => cases e1
    | v d =>
      cases e1
      have r : Rep Y G2 y d := o2
      have p2 : Pst Y W (okV Y) G2 R σ en1 (.ok (.dct [k] [d], true) en1) Q := p2
      have S3 := S2.wrR (o' := .dK [(k, y)]) upd_same rfl
      rw [upd_upd] at S3
      have S4 : Sep Y G2 R (upd H2 q (.dK [(k, y)])) σ en1 := S3.lessR (same_new (S.rnone hq))
      refine p2 (.ref q) _ G2 (Same.refl _) (Keep.refl _ _) S4 ⟨q, rfl, ⟨S2.gr q _ upd_same, S.rnone hq, .dct upd_same rfl (.cons r .nil)⟩, fun i hi z => ?_⟩
      obtain ⟨ow, d', e1, e2⟩ := isOwnC_get hi
      obtain ⟨b, e3, w2⟩ := S2.own i ow d' e1 e2
      rw [e3] at z; cases z
      have := w2.r
      rw [upd_same] at this; cases this
end
end L3

/-! L3X: sorted(set(xs)), xs ints. -/
namespace HT
open PySem PySem.Spec PySem.Calls PyProof.Rows L2
section
variable {P : Program} {w : World} {A : Around} {E : Value → Shared → Prop} {s : Shared}
theorem call_set_lstI {l : Addr} {items : Array Value} (ns : List Int) {Q : Value → Shared → Prop} (hh : A.handled = none) (hl : s.heap.IsList l items) (hit : IntsAre items.toList ns) (hb : ns.length + 1 < scanBound)
    (h : ∀ (h' : Heap) (tk c : Nat), SetR w h' s.heap.objs.size (fun j => decide (j ∈ ns)) c → c ≤ ns.length → (∀ b o, s.heap.get? b = some o → h'.get? b = some o) → Q (.ref s.heap.objs.size) { s with heap := h', toks := tk }) :
    wpAny (model P w) A (call (.type "set") [.ref l]) Q E s := by
  have hisz : items.size = ns.length := by
    have q := IntsAre.length hit
    rw [Array.length_toList] at q
    exact q
  generalize hled : (!w.params.followText "set-order") = led
  obtain ⟨c, tl, hmro⟩ := F.called_set.mro
  have hmade := F.called_set.made
  have hsub := F.called_set.sub
  refine wpAny_call (codeAny_of_tree ?_)
  show wpAny _ _ (callAny (.type "set") _) _ _ _
  refine wpAny_pure ⟨Code.quiet_builtin _ (by decide +kernel), codeAny_builtin F.entry_type_call ?_⟩
  rw [Around.under_plain (weight_type_call_type "set" [.ref l] []) rfl]
  have h1 := F.called_set.notType
  have h2 := F.called_set.canCreate
  have hct := F.typeCall_set_1 (.ref l)
  repeat (any_goals (first | assumption | wp_step))
  refine codeAny_mono (code_set_led1 (.ref l) (E := E) (Q₁ := fun obj s₁ => obj = .ref s.heap.objs.size ∧ s₁ = { s with heap := s.heap.push { cls := .type "set", dict := none, data := .set #[] 0 (.fresh 0 0 led) } }) (by rw [hled]; exact ⟨rfl, rfl⟩)) fun r s₁ hr => ?_
  cases r with
  | error e => exact hr
  | ok fl =>
    cases fl with
    | ret obj =>
      obtain ⟨rfl, rfl⟩ := hr
      have hS : (s.heap.push { cls := .type "set", dict := none, data := .set #[] 0 (.fresh 0 0 led) }).get? s.heap.objs.size = some { cls := .type "set", dict := none, data := .set #[] 0 (.fresh 0 0 led) } := Heap.get?_push_size _ rfl
      have hT : Shared.TypeIs { s with heap := s.heap.push { cls := .type "set", dict := none, data := .set #[] 0 (.fresh 0 0 led) } } (.ref s.heap.objs.size) "set" := ⟨_, hS, rfl⟩
      have hli := F.called_set.init.lookup
      have hbi := F.called_set.init.bind (.ref s.heap.objs.size)
      repeat (any_goals (first | assumption | wp_step))
      refine codeAny_mono (codeAny_call_builtin (R := wants (fun r s₂ => r = .none ∧ ∃ h' tk c, s₂ = { s with heap := h', toks := tk } ∧ SetR w h' s.heap.objs.size (fun j => decide (j ∈ ns)) c ∧ c ≤ ns.length ∧
          (∀ b o, s.heap.get? b = some o → h'.get? b = some o)) E) F.called_set.init.plain F.entry_set_init (check_set_init_1 hT ?_)) fun r₂ s₂ hr₂ => ?_
      · obtain ⟨ol, hol, hcl, nl, hdl⟩ := hl
        obtain ⟨ocls, odict, odata, oslots⟩ := ol
        simp only at hcl hdl
        subst hcl; subst hdl
        have hol' : (s.heap.push { cls := .type "set", dict := none, data := .set #[] 0 (.fresh 0 0 led) }).get? l = some { cls := .type "list", dict := odict, data := .seq items nl, slots := oslots } := Heap.get?_push_of_some _ hol
        have hsls := F.sub_list_set
        have hslf := F.sub_list_frozenset
        have hne : (Value.type "list" == Value.type "dict") = false := by decide
        have hl1 : (s.heap.push { cls := .type "set", dict := none, data := .set #[] 0 (.fresh 0 0 led) }).IsList l items := ⟨_, hol', rfl, nl, rfl⟩
        unfold Builtin.«set.__init__» noKeywords Builtin.Frozenset.updateFrom
        generalize hPI : pyIter = PI
        wp_walk
        subst hPI
        refine wpAny_pyIter_list hl1 ?_
        refine wpAny_bind (wpAny_runValue ?_)
        have hlS : l < s.heap.objs.size := Heap.lt_size hol
        have hh3 : A.in1.in1.in1.handled = none := by simp [hh]
        have hneI : l ≠ (s.heap.push { cls := .type "set", dict := none, data := .set #[] 0 (.fresh 0 0 led) }).objs.size := by
          rw [Heap.size_push]; exact Nat.ne_of_lt (Nat.lt_succ_of_lt hlS)
        have hSf : s.heap.objs.size ∉ [(s.heap.push { cls := .type "set", dict := none, data := .set #[] 0 (.fresh 0 0 led) }).objs.size, l] := by
          rw [Heap.size_push]; simp only [List.mem_cons, List.mem_singleton, List.not_mem_nil, or_false, not_or]
          exact ⟨Nat.ne_of_lt (Nat.lt_succ_self _), Nat.ne_of_gt hlS⟩
        have hval : ∀ (i : Nat) (v : Value), items[i]? = some v → ∃ k t, ns[i]? = some k ∧ v = .int k t := fun i v hv => by
          have hi : i < ns.length := by rw [← hisz]; exact (Array.getElem?_eq_some_iff.mp hv).1
          obtain ⟨t, e⟩ := PyProof.Rows.IntsAre.int_at hit i v (by rw [Array.getElem?_toList]; exact hv)
          refine ⟨ns[i], t, List.getElem?_eq_getElem hi, ?_⟩
          rw [e, List.getD_eq_getElem?_getD, List.getElem?_eq_getElem hi] <;> rfl
        refine set_update_ints ((Walks.list hh3 _ l hneI items).toS) s.heap.objs.size
          hSf ns hisz hb hval (items.size - 0) 0 _ (by omega) (Nat.zero_le _)
          ⟨⟨_, Heap.get?_push_size _ rfl, rfl, rfl⟩, (hl1.push _)⟩ ?hS0 ?hR
        case hS0 =>
          have hget : ((s.heap.push { cls := .type "set", dict := none, data := .set #[] 0 (.fresh 0 0 led) }).push { cls := .type "list_iterator", data := .fields #[.ref l, .int 0 0] }).get? s.heap.objs.size = some { cls := .type "set", dict := none, data := .set #[] 0 (.fresh 0 0 led) } := Heap.get?_push_of_some _ hS
          exact ⟨0, Nat.le_refl 0, setR_new_at (by rw [hget, hled])⟩
        case hR =>
          intro s' c' hm hc' hS'
          obtain ⟨h', g2, d', tk', os'⟩ := s'
          have eg : g2 = s.gens := hm.gens
          have ed : d' = s.drawn := hm.drawn
          have eo : os' = s.os := hm.os
          subst eg; subst ed; subst eo
          show wpAny _ _ _ _ _ _
          refine wpAny_pure ?_
          show wpAny _ _ (ret Value.none) _ _ _
          rw [hisz] at hc'
          refine wpAny_pure ⟨rfl, h', tk', c', rfl, hS', hc', fun b o e => ?_⟩
          have hb0 : b < s.heap.objs.size := Heap.lt_size e
          have hb1 : b ≠ s.heap.objs.size := Nat.ne_of_lt hb0
          have hb2 : b ≠ (s.heap.push { cls := .type "set", dict := none, data := .set #[] 0 (.fresh 0 0 led) }).objs.size := by
            rw [Heap.size_push]; exact Nat.ne_of_lt (Nat.lt_succ_of_lt hb0)
          exact hm.heap b o (by simp only [List.mem_cons, List.mem_singleton, List.not_mem_nil, or_false, not_or]; exact ⟨hb1, hb2⟩) (Heap.get?_push_of_some _ (Heap.get?_push_of_some _ e))
      · cases r₂ with
        | error e => exact hr₂
        | ok fl₂ =>
          cases fl₂ with
          | ret r =>
            obtain ⟨rfl, h', tk, c', rfl, hS', hc', hk'⟩ := hr₂
            repeat (any_goals (first | assumption | wp_step))
            exact h _ _ _ hS' hc' hk'
          | _ => exact hr₂.elim
    | _ => exact hr.elim
end
end HT
namespace L3
open PySem PySem.Spec PyProof.Rows L2
theorem insS_mem (x : Int) : ∀ (l : List Int) (y : Int), y ∈ insS x l ↔ y = x ∨ y ∈ l
  | [], y => by simp [insS]
  | z :: r, y => by
    unfold insS
    split
    · simp
    · split
      · rename_i h; subst h; simp
      · rw [List.mem_cons, insS_mem x r y, List.mem_cons]
        constructor
        · rintro (h | h | h)
          · exact .inr (.inl h)
          · exact .inl h
          · exact .inr (.inr h)
        · rintro (h | h | h)
          · exact .inr (.inl h)
          · exact .inl h
          · exact .inr (.inr h)
theorem sortS_mem : ∀ (l : List Int) (y : Int), y ∈ sortS l ↔ y ∈ l
  | [], _ => by simp [sortS]
  | x :: r, y => by rw [sortS, insS_mem, sortS_mem r y, List.mem_cons]
theorem insS_sorted (x : Int) : ∀ l : List Int, l.Pairwise (· < ·) → (insS x l).Pairwise (· < ·)
  | [], _ => by simp [insS]
  | y :: r, h => by
    unfold insS
    rw [List.pairwise_cons] at h
    split
    · rename_i hxy
      rw [List.pairwise_cons]
      refine ⟨fun z hz => ?_, List.pairwise_cons.mpr h⟩
      rcases List.mem_cons.mp hz with rfl | hz
      · exact hxy
      · exact Int.lt_trans hxy (h.1 z hz)
    · split
      · exact List.pairwise_cons.mpr h
      · rename_i h1 h2
        rw [List.pairwise_cons]
        refine ⟨fun z hz => ?_, insS_sorted x r h.2⟩
        rcases (insS_mem x r z).mp hz with rfl | hz
        · omega
        · exact h.1 z hz
theorem sortS_sorted : ∀ l : List Int, (sortS l).Pairwise (· < ·)
  | [] => .nil
  | x :: r => insS_sorted x _ (sortS_sorted r)
theorem lt_nodup : ∀ {l : List Int}, l.Pairwise (· < ·) → l.Nodup := fun h => h.imp fun h => Int.ne_of_lt h
theorem sortedS_one {l m : List Int} (h : ∀ k, k ∈ l ↔ k ∈ m) (h1 : l.Pairwise (· < ·)) (h2 : m.Pairwise (· < ·)) : l = m :=
  sorted_one ((List.perm_ext_iff_of_nodup (lt_nodup h1) (lt_nodup h2)).mpr h) (h1.imp Int.le_of_lt) (h2.imp Int.le_of_lt)
section
variable {X : Cx} {Y : Wd} {W : WX} {U : Ev} {e : Expr} {a' : E}
def tSrtSet (K : PySem.W.Frag) (ta : TE) : TE := fun σ H Q => ta σ H fun x H1 => ∃ (l : Addr) (ns : List Int), x = V.ref l ∧ (SqL K H1 l (ns.map V.int) ∨ SqT K H1 l (ns.map V.int)) ∧ ns.length < 64 ∧
  ∀ (ms : List Int) (p : Addr), ms.Pairwise (· < ·) → (∀ k : Int, k ∈ ms ↔ k ∈ ns) → H1 p = none → Q (.ref p) (upd H1 p (.lst (ms.map V.int)))
theorem sorted_inv {pins : List (Addr × Obj)} {σ : L2.St} {H1 : Hp} {s : Shared} {a : Addr} {c : Nat} {ns : List Int} {Q : VK} (hc : X.calm = true) (I : L2.Inv X pins σ H1 s) (hS : SetR X.w s.heap a (fun j => decide (j ∈ ns)) c) (h64 : c < 64)
    (q1 : ∀ (ms : List Int) (p : Addr), ms.Pairwise (· < ·) → (∀ k : Int, k ∈ ms ↔ k ∈ ns) → H1 p = none → Q (.ref p) (upd H1 p (.lst (ms.map V.int)))) :
    wpAny (model X.prog X.w) X.A (call (.builtin "sorted") [.ref a]) (EP X pins σ Q) X.xe s := by
  refine sorted_set hS (I.ok.hd hc) h64 fun s' p out c2 ms k g o hp hg hi hs hm hl => ?_
  have hlen : (ms.map V.int).length ≤ sizeLine := by rw [List.length_map, hl, sizeLine_eq]; omega
  have hn : H1 p = none := I.hok.fresh hp
  have J : L2.Inv X pins σ (upd H1 p (.lst (ms.map V.int))) { s with heap := s'.heap, gens := s'.gens, drawn := s'.drawn, toks := s'.toks } :=
    I.call (ch := []) (Un.laid k hp hn) (I.hok.laid k hp ⟨hlen, out.toList, c2, vals_of_ints hi, hg⟩) (by rw [g]; exact I.bare) (fun _ z => nomatch z)
  have e : s' = { s with heap := s'.heap, gens := s'.gens, drawn := s'.drawn, toks := s'.toks } := by
    cases s'
    cases s
    cases o
    rfl
  rw [e]
  exact ⟨.ref p, _, J, rfl, q1 ms p hs (fun k => by rw [hm k, decide_eq_true_iff]) hn⟩
theorem pe_srtSet {a : Expr} {ta : TE} {p p2 q pos : Pos} (hc : X.calm = true) (hg : Gl X "sorted") (hm : X.mg "sorted" = none) (hg2 : Gl X "set") (hm2 : X.mg "set" = none) (ha : PE X a ta)
    (na : starEach [a] X.env = (false, eval a X.env) :: starEach [] X.env := by rfl) : PE X (.Call (.Name "sorted" p) [.Call (.Name "set" p2) [a] [] q] [] pos) (tSrtSet X.K ta) := by
  refine ⟨fun pins s σ H Q I h => ?_⟩
  refine Call_ (ld_blt I hg hm bt_srt ?_)
  refine PyProof.Rows.callWith_builtin1 (PyProof.Rows.args_cons ?_ rfl) rfl rfl
  refine Call_ (ld_blt I hg2 hm2 PyProof.Rows.boot_set ?_)
  refine PyProof.Rows.callWith_type1 (PyProof.Rows.args_cons (thn (ha.run pins s σ H _ I h) fun v s1 ⟨x, H1, I1, r1, q1⟩ => PyProof.Rows.args_nil ?_) na) na rfl
  obtain ⟨l, ns, rfl, hq, h1, q1⟩ := q1
  cases r1
  have fin : ∀ (h' : Heap) (tk c : Nat), SetR X.w h' s1.heap.objs.size (fun j => decide (j ∈ ns)) c → c ≤ ns.length → (∀ b o, s1.heap.get? b = some o → h'.get? b = some o) →
      wpAny (model X.prog X.w) X.A (call (.builtin "sorted") [.ref s1.heap.objs.size]) (EP X pins σ Q) X.xe { s1 with heap := h', toks := tk } := by
    intro h' tk c hS hc' hk
    have I2 : Inv X pins σ H1 { s1 with heap := h', toks := tk } := I1.kept fun b o e => hk b o e
    exact sorted_inv hc I2 hS (by omega) q1
  rcases hq with hq | hq
  · obtain ⟨its, r, pl, hz⟩ := I1.list hq
    exact HT.call_set_lstI ns (I1.ok.hd hc) pl.isList (by simpa using r.ints) (by unfold scanBound; omega) fun h' tk c hS hc' hk => PyProof.Rows.args_nil (fin h' tk c hS hc' hk)
  · obtain ⟨its, r, pl, hz⟩ := I1.tuple hq
    exact call_set_tupI ns (I1.ok.hd hc) pl (by simpa using r.ints) (by unfold scanBound; omega) fun h' tk c hS hc' hk => PyProof.Rows.args_nil (fin h' tk c hS hc' hk)
theorem s_srtS (hc : X.calm = true) (hm : X.mg "sorted" = none) (hm2 : X.mg "set" = none) (hK : X.K = Y.K) {p p2 q pos : Pos} (ha : PE X e (rdX Y W U a')) (hg : Gl X "sorted" := by rfl) (hg2 : Gl X "set" := by rfl)
    (na : starEach [e] X.env = (false, eval e X.env) :: starEach [] X.env := by rfl) : PE X (.Call (.Name "sorted" p) [.Call (.Name "set" p2) [e] [] q] [] pos) (rdE Y W U (.op .srtS (.cons a' .nil))) := by
  refine (pe_srtSet hc hg hm hg2 hm2 ha na).imp fun σ H Q ⟨G, R, en, S, p⟩ => ⟨G, R, en, S, ?_⟩
  rw [evE_op1] at p
  refine Pst.bind p fun y en1 v H1 G1 _ s1 k1 S1 o1 p1 => ?_
  unfold opFin at p1
  split at p1
  · exact p1.elim
  · rename_i ds e1
    obtain ⟨d, e2, rfl⟩ := avDs_1 (show avDs en1 [y] = some ds from e1)
    have pk := pk_of S1 o1 e2
    split at p1
    · rename_i q e3
      obtain ⟨d', e4, e5⟩ := a1_some (show a1 rSrtS [d] = some q from e3)
      cases e4
      have fin : ∀ (xs : List D) (is : List Int) (ms : List Int) (p : Addr), asI xs = some is → (if is.length < 64 then some ((D.lst ((sortS is).map D.int), true) : D × Bool) else none) = some q → ms.Pairwise (· < ·) → (∀ k : Int, k ∈ ms ↔ k ∈ is) → H1 p = none → Q (.ref p) (upd H1 p (.lst (ms.map V.int))) := fun xs is ms p ei eq hs hm hp => by
        split at eq
        · cases eq
          have : ms = sortS is := sortedS_one (fun k => by rw [hm k, sortS_mem]) hs (sortS_sorted is)
          subst this
          exact fin_own S1 p1 hp (.lst upd_same (RepL.ofInts _))
        · cases eq
      have len : ∀ (is : List Int), (if is.length < 64 then some ((D.lst ((sortS is).map D.int), true) : D × Bool) else none) = some q → is.length < 64 := fun is eq => by
        split at eq
        · assumption
        · cases eq
      unfold rSrtS at e5
      split at e5
      · rename_i xs e6
        split at e5
        · rename_i is e7
          cases d with
          | tup ys =>
            cases e6
            obtain ⟨a, vs, rfl, h1, h2⟩ := pk.tup
            have ev := h2.asI e7
            subst ev
            exact ⟨a, is, rfl, .inr (by rw [hK]; exact Same.seqT S1.gH h1), len is e5, fun ms p => fin _ is ms p e7 e5⟩
          | lst ys =>
            cases e6
            obtain ⟨a, vs, rfl, h1, h2⟩ := pk.lst S1
            have ev := h2.asI e7
            subst ev
            exact ⟨a, is, rfl, .inl (.inl (.inl h1)), len is e5, fun ms p => fin _ is ms p e7 e5⟩
          | _ => cases e6
        · cases e5
      · cases e5
    · exact p1.elim
end
end L3

/-! L3Z: instances: C(e, ..), o.f = e. -/
namespace L2
open PySem PySem.Spec PyProof.Rows
section
variable {X : Cx} {CX : CXT} {k : Nat} {f C : Addr} {fd : FuncData} {ps : List Str} {sp : Sp} {E : St → XK} {x : Str} {p pos : Pos} {e : Expr} {es : List Expr} {t : TA}
def tMakeS (C : Addr) (sp : Sp) (E : St → XK) (t : TA) : TE := fun σ H Q => t σ H fun vs H1 => ∀ x dx, H1 x = none → H1 dx = none → dx ≠ x → sp (.ref x :: vs) (upd (upd H1 dx (.own x)) x (.ins C dx [])) (fun v H2 => v = .non ∧ Q (.ref x) H2) (E σ)
theorem run_makeS {pins : List (Addr × Obj)} {σ : St} {H : Hp} {s : Shared} {Q : VK} {us : List Value} {vs : List V} (M : Mk X.K C f) (F : FnOk X.prog X.w X.K X.mg X.base CX k f fd ps sp) (hr : Room (k + 1) X.A) (hb : Binds X.K fd ps []) (hx : PassesAt CX X σ (E σ)) (I : Inv X pins σ H s) (r : Vals vs us)
    (h : ∀ x dx, H x = none → H dx = none → dx ≠ x → sp (.ref x :: vs) (upd (upd H dx (.own x)) x (.ins C dx [])) (fun v H2 => v = .non ∧ Q (.ref x) H2) (E σ)) : wpAny (model X.prog X.w) X.A (call (.ref C) us) (EP X pins σ Q) X.xe s := by
  have fx : H (s.heap.objs.size + 1) = none := I.hok.fresh (Nat.le_succ _)
  have fd' : H s.heap.objs.size = none := I.hok.fresh (Nat.le_refl _)
  have todo := h _ _ fx fd' (Nat.ne_of_lt (Nat.lt_succ_self _))
  have J := Inv.made (C := C) I
  have rr : Vals (V.ref (s.heap.objs.size + 1) :: vs) (Value.ref (s.heap.objs.size + 1) :: us) := .cons rfl r
  have ln : (Value.ref (s.heap.objs.size + 1) :: us ++ []).length = ps.length := by
    rw [List.append_nil, ← rr.length, F.len _ _ _ _ todo]
  have bb := hb _ (Value.ref (s.heap.objs.size + 1) :: us) J.kIn ln
  rw [List.append_nil] at bb
  refine wpAny_call (make_map (f := f) I.kIn M.makes M.init (beq_iff_eq.mp M.fn) (codeAny_mono (F.run _ X.stack _ _ ⟨Value.ref (s.heap.objs.size + 1) :: us, []⟩ _ _ _ (E σ) (hr.make C us []) (J.env0.make C us []) bb rr todo) fun res s' got => ?_))
  match res, got with
  | .error e, got => exact hx pins _ _ e s' J got
  | .ok (.ret u), got =>
    obtain ⟨v, H', I3, rv, ev, q3⟩ := J.after got
    subst ev
    exact ⟨rv, ⟨V.ref (s.heap.objs.size + 1), H', I3, rfl, q3⟩⟩
theorem pe_makeS (M : Mk X.K C f) (F : FnOk X.prog X.w X.K X.mg X.base CX k f fd ps sp) (hr : Room (k + 1) X.A) (hg : Gl X x) (hm : X.mg x = some (.ref C)) (hb : Binds X.K fd ps []) (hx : ∀ σ, PassesAt CX X σ (E σ))
    (ha : PA X (e :: es) t) (hdb : (x == ("__debug__" : Str)) = false := by decide) (he : starEach (e :: es) X.env = (false, eval e X.env) :: starEach es X.env := by rfl) (hpl : (backTo pos (starEach es X.env)).any (·.1) = false := by rfl) :
    PE X (.Call (.Name x p) (e :: es) [] pos) (tMakeS C sp E t) := by
  refine ⟨fun pins s σ H Q I h => ?_⟩
  refine wpAny_Call_Name_kw (ld_glob I hg hm ?_ hdb)
  refine PySem.W.callWith_K (h₀ := X.base) I.ok.mod.kin M.kp (thn (ha.run pos pins s σ H _ I h) fun us s1 ⟨vs, H1, I1, r, q⟩ => ⟨I1.kIn, ?_⟩) he hpl
  exact run_makeS M F hr hb (hx σ) I1 r q
end
end L2
namespace L3
open PySem PySem.Spec PyProof.Rows L2
section
variable {X : Cx} {Y : Wd} {W : WX} {U : Ev} {G G' R H H' : Hp} {σ : L2.St} {en : En}
theorem Sep.clear (S : Sep Y G R H σ en) : Sep Y G R H [] [] :=
  ⟨S.gH, S.rH, S.gr, rfl, fun i ow d e => by simp at e, fun i ow d e => by simp at e, fun i j a h => by simp [isOwnC] at h, S.tb⟩
theorem pass0 : PassOk Y G σ en [] [] [] := ⟨rfl, rfl, fun k d h => by simp at h, fun k d h => by simp at h, fun k k' i d d' h => by simp at h⟩
theorem back0 : BackOk en en [] [] [] := ⟨rfl, fun _ _ => rfl, fun k i d h => by simp at h⟩
/-- the state in which a new instance is filled -/
theorem made_sep {c : Nat} {x dx : Addr} {vs : List V} {ds : List D} (S : Sep Y G R H σ en) (hok : Y.ok c) (hx : H x = none) (hd : H dx = none) (ne : dx ≠ x) (r : RepL Y G vs ds) :
    Sep Y (upd G dx (.own x)) (restR R H σ en [] []) (upd (upd H dx (.own x)) x (.ins (Y.ca c) dx [])) ((V.ref x :: vs).map some) (((true, D.obj c [] []) :: ds.map fun d => (false, d)).map cellOf) := by
  have S0 : Sep Y G (restR R H σ en [] []) H [] [] := pass_sep S pass0
  have S1 := S0.newG (o := .own x) hd
  have hx1 : (upd H dx (.own x)) x = none := by rw [upd_ne (Ne.symm ne)]; exact hx
  have S2 := S1.new (o := .ins (Y.ca c) dx []) hx1
  have gx : (upd G dx (.own x)) x = none := by rw [upd_ne (Ne.symm ne)]; exact S.gnone hx
  have rx : restR R H σ en [] [] x = none := S0.rnone hx
  have r1 : RepL Y (upd G dx (.own x)) vs ds := RepL.mono (same_new (S.gnone hd)) r
  have hl := r.length
  refine ⟨S2.gH, S2.rH, S2.gr, by simp [hl], fun i ow d e k => ?_, fun i ow d e k => ?_, fun i j a e1 e2 q1 q2 => ?_, S2.tb⟩
  · cases i with
    | zero =>
      simp [cellOf] at e
      rw [← e.1] at k
      cases k
    | succ i =>
      rw [List.map_cons, List.getElem?_cons_succ, List.map_map, List.getElem?_map] at e
      cases q : ds[i]? with
      | none => rw [q] at e; cases e
      | some d' =>
        rw [q] at e
        cases e
        obtain ⟨v, f1, f2⟩ := r1.get q
        exact ⟨v, by rw [List.map_cons, List.getElem?_cons_succ, List.getElem?_map, f1]; rfl, f2⟩
  · cases i with
    | zero =>
      simp [cellOf] at e
      obtain ⟨_, rfl⟩ := e
      exact ⟨x, rfl, gx, rx, .obj hok upd_same upd_same rfl .nil⟩
    | succ i =>
      rw [List.map_cons, List.getElem?_cons_succ, List.map_map, List.getElem?_map] at e
      cases q : ds[i]? with
      | none => rw [q] at e; cases e
      | some d' =>
        rw [q] at e
        cases e
        cases k
  · have z : ∀ i : Nat, isOwnC ((((true, D.obj c [] []) :: ds.map fun d => (false, d)).map cellOf)[i]?) = true → i = 0 := fun i h => by
      cases i with
      | zero => rfl
      | succ i =>
        rw [List.map_cons, List.getElem?_cons_succ, List.map_map, List.getElem?_map] at h
        cases q : ds[i]? with
        | none => rw [q] at h; cases h
        | some d' => rw [q] at h; cases h
    rw [z i e1, z j e2]
/-- behind the making -/
theorem made_back {x : Addr} {vs : List V} {d : D} {ow : Ow} {outs : List Cell} (S : Sep Y G R H σ en) (s : Same G G') (S' : Sep Y G' (restR R H σ en [] []) H' ((V.ref x :: vs).map some) (some (ow, d) :: outs)) (hw : ow = .brw ∨ ow = .brs) :
    Sep Y G' R H' σ en ∧ Vok Y G' R H' σ en (.ref x) d (ow.isOwn) := by
  obtain ⟨h1, _, h3⟩ := back_sep (outs := []) S pass0 s (vs := []) (S'.clear) back0
  refine ⟨h1, h3 _ _ _ ?_⟩
  rcases hw with rfl | rfl
  · obtain ⟨a, e1, e2⟩ := S'.own 0 .brw d rfl rfl
    cases e1
    exact ⟨_, rfl, e2, fun i h => by simp [isOwnC] at h⟩
  · obtain ⟨v, e1, e2⟩ := S'.sh 0 .brs d rfl rfl
    cases e1
    exact e2
theorem s_mk {c f k : Nat} {fI : Addr} {fd : FuncData} {ps : List Str} {x : Str} {p pos : Pos} {e : Expr} {es : List Expr} {as' : Es} (M : Mk X.K (Y.ca c) fI) (hok : Y.ok c) (F : FnOk X.prog X.w X.K X.mg X.base (L2.CX X.prog X.w) k fI fd ps (spF Y (U.C f))) (hr : Room (k + 1) X.A) (hm : X.mg x = some (.ref (Y.ca c)))
    (hb : Binds X.K fd ps []) (tk : Takes X W) (ha : PA X (e :: es) (rdA Y W U as')) (hg : Gl X x := by rfl) (hdb : (x == ("__debug__" : Str)) = false := by decide) (he : starEach (e :: es) X.env = (false, eval e X.env) :: starEach es X.env := by rfl) (hpl : (backTo pos (starEach es X.env)).any (·.1) = false := by rfl) :
    PE X (.Call (.Name x p) (e :: es) [] pos) (rdE Y W U (.mk c f as')) := by
  refine (pe_makeS M F hr hg hm hb (fun σ => passAt tk σ) ha hdb he hpl).imp fun σ H Q ⟨G, R, en, S, p⟩ => ⟨G, R, en, S, ?_⟩
  rw [evE] at p
  refine Pst.bind p fun avs en1 vs H1 G1 _ s1 k1 S1 o1 p1 => ?_
  intro a dx ha' hd' ne
  unfold mkFin at p1
  split at p1
  · exact p1.elim
  · rename_i ds ed
    have r : RepL Y G1 vs ds := repL_of o1 ed
    have sg : Same G1 (upd G1 dx (.own a)) := same_new (S1.gnone hd')
    refine ⟨_, _, _, made_sep S1 hok ha' hd' ne r, ?_⟩
    split at p1
    · rename_i own d outs ec
      rw [ec]
      intro v H2 G2 s2 S2 o2
      obtain ⟨g1, g2⟩ := made_back S1 (sg.trans s2) S2 (.inl rfl)
      refine ⟨?_, p1 (.ref a) H2 G2 (sg.trans s2) (Keep.refl _ _) g1 g2⟩
      cases own with
      | false => cases o2; rfl
      | true =>
        obtain ⟨_, _, q, _⟩ := o2
        cases q.t
    · rename_i own d outs ec
      rw [ec]
      intro v H2 G2 s2 S2 o2
      obtain ⟨g1, g2⟩ := made_back S1 (sg.trans s2) S2 (.inr rfl)
      refine ⟨?_, p1 (.ref a) H2 G2 (sg.trans s2) (Keep.refl _ _) g1 g2⟩
      cases own with
      | false => cases o2; rfl
      | true =>
        obtain ⟨_, _, q, _⟩ := o2
        cases q.t
    · rename_i z outs ec
      rw [ec]
      intro cls dd H2 G2 s2 S2 o2
      obtain ⟨h1, _, _⟩ := back_sep (outs := []) S1 pass0 (sg.trans s2) (vs := []) (S2.clear) back0
      exact p1 cls dd H2 G2 (sg.trans s2) (Keep.refl _ _) h1 o2
    · exact p1.elim
/-! ### o.f = e -/
theorem put_fld {f : Str} {y : V} {d : D} (ry : Rep Y G y d) : ∀ {fs : List (Str × V)} {ns : List Str} {xs : List D}, fs.map (·.1) = ns → RepL Y G (fs.map (·.2)) xs → (putF f y fs).map (·.1) = (fldSet f d ns xs).1 ∧ RepL Y G ((putF f y fs).map (·.2)) (fldSet f d ns xs).2
  | [], ns, xs, e, r => by
    subst e
    cases r
    exact ⟨rfl, .cons ry .nil⟩
  | (g, v) :: fs, ns, xs, e, r => by
    subst e
    cases r with
    | cons r1 r2 =>
      unfold putF
      show _ ∧ _
      simp only [List.map_cons]
      unfold fldSet
      by_cases h : g = f
      · subst h
        rw [if_pos rfl]
        first
          | exact ⟨by simp, by simpa using RepL.cons ry r2⟩
          | (rw [if_pos (by simp)]; exact ⟨rfl, .cons ry r2⟩)
      · obtain ⟨h1, h2⟩ := put_fld (f := f) ry (fs := fs) rfl r2
        rw [if_neg h]
        first
          | (rw [if_neg (by simpa using h)]; exact ⟨by simp [h1], .cons r1 h2⟩)
          | exact ⟨by simp [h, h1], by simpa [h] using RepL.cons r1 h2⟩
theorem st_setf {i : Nat} {f : Str} {o v : Expr} {v' : E} {p' pos : Pos} (hcl : ∀ c, Y.ok c → Cls X.K (Y.ca c) ∧ NoAttr X.K (Y.ca c) f) (ho : PE X o (rdX Y W U (.pk i))) (hv : PE X v (rdX Y W U v')) (hs : swapsWith v (some (.Attribute o f p')) pos.line X.env = pure false := by rfl) :
    PS X (.Assign [.Attribute o f p'] v pos) (rdS Y W U (.setf f i v')) := by
  refine (ps_fld ho hv hs).imp fun D1 σ H ⟨G, R, en, S, q⟩ => ⟨G, R, en, S, ?_⟩
  rw [evS] at q
  refine PstS.bindE q fun av1 en1 w H1 G1 hev s1 k1 S1 o1 q1 => ?_
  unfold stfFin at q1
  split at q1
  · rename_i d ow c ns xs hi
    split at q1
    · rename_i hw
      obtain ⟨hown, hlen⟩ := Bool.and_eq_true_iff.mp hw
      have hlen := of_decide_eq_true hlen
      obtain ⟨a, f1, f2⟩ := S1.own i ow _ hi hown
      refine rd.mk S1 ?_
      show Pst Y W (okA Y) G1 R σ en1 (match en1[i]? with | some (some _) => .ok (.p i) en1 | _ => .bad) _
      rw [hi]
      intro z H2 G2 s2 k2 S2 o2
      have o2 : σ[i]? = some (some z) := o2
      obtain ⟨a', g1, g2⟩ := S2.own i ow _ hi hown
      rw [g1] at o2
      cases o2
      have ry : Rep Y G2 w d := Rep.mono s2 o1
      obtain ⟨o3, ho3, _⟩ := g2.t.at
      cases ht : g2.t with
      | obj hok h1 h2 h3 h4 =>
        obtain ⟨hc1, hc2⟩ := hcl _ hok
        obtain ⟨j1, j2⟩ := put_fld (f := f) ry h3 h4
        refine ⟨a', _, _, _, rfl, h1, hc1, hc2, by rw [← List.length_map (·.1), h3]; exact hlen, ?_⟩
        have q2 := PstS.weak (r := .ok .nx (en1.set i (some (ow, .obj c (fldSet f d ns xs).1 (fldSet f d ns xs).2)))) q1 s2 (k2.trans (Keep.setSame (d' := .obj c (fldSet f d ns xs).1 (fldSet f d ns xs).2) hi rfl))
        exact PstS.now (S2.write hi hown g1 (.obj hok upd_same h2 j1 j2)) q2
    · exact q1.elim
  · exact q1.elim
end
/-! ### the program's classes, as Bools -/
def tyNs : List String := ["NoneType", "bool", "int", "str", "tuple", "list", "dict"]
def ic1B (K : PySem.W.Frag) (xs : List Str) (m c : Nat) : Bool :=
  (He.Fa.cls (xs.getD c "")).ok K && (He.eqO (PySem.W.findIn K (.ref (caOf K xs c)) "__class__") (some (some (.builtin "object.__class__"))) && (He.eqO (PySem.W.specialIn K (.builtin "object.__class__") "__get__") (some (some (.builtin "getset_descriptor.__get__"))) &&
  (decide (PySem.W.takesIn K (.builtin "object.__class__") = some true) && (decide (PySem.W.mroIn K (caOf K xs c) (.type "object") = some true) && (tyNs.all (fun t => decide (PySem.W.kitOne K (.type t) (.ref (caOf K xs c)) = some false)) &&
  (tyNs.all (fun t => decide (PySem.W.kitOne K (.ref (caOf K xs c)) (.type t) = some false)) && (List.range xs.length).all (fun c' => decide (c' < m) || decide (PySem.W.kitOne K (.ref (caOf K xs c)) (.ref (caOf K xs c')) = some (decide (c' = c))))))))))
def icB (K : PySem.W.Frag) (xs : List Str) (m : Nat) : Bool := (List.range xs.length).all fun c => decide (c < m) || ic1B K xs m c
theorem icB_ok {K : PySem.W.Frag} {xs : List Str} {m : Nat} {Y : Wd} (h : icB K xs m = true) (hok : ∀ c, Y.ok c → m ≤ c ∧ c < xs.length) (hca : Y.ca = caOf K xs) : IsC Y K := by
  have at_ : ∀ c, Y.ok c → ic1B K xs m c = true := fun c hc => by
    obtain ⟨h1, h2⟩ := hok c hc
    have := List.all_eq_true.mp h c (List.mem_range.mpr h2)
    rcases Bool.or_eq_true_iff.mp this with z | z
    · have := of_decide_eq_true z; omega
    · exact z
  have parts : ∀ c, Y.ok c → (He.Fa.cls (xs.getD c "")).ok K = true ∧ PySem.W.findIn K (.ref (caOf K xs c)) "__class__" = some (some (.builtin "object.__class__")) ∧ PySem.W.specialIn K (.builtin "object.__class__") "__get__" = some (some (.builtin "getset_descriptor.__get__")) ∧ PySem.W.takesIn K (.builtin "object.__class__") = some true ∧
      PySem.W.mroIn K (caOf K xs c) (.type "object") = some true ∧ (∀ t ∈ tyNs, PySem.W.kitOne K (.type t) (.ref (caOf K xs c)) = some false) ∧ (∀ t ∈ tyNs, PySem.W.kitOne K (.ref (caOf K xs c)) (.type t) = some false) ∧ ∀ c', Y.ok c' → PySem.W.kitOne K (.ref (caOf K xs c)) (.ref (caOf K xs c')) = some (decide (c' = c)) := fun c hc => by
    have q := at_ c hc
    unfold ic1B at q
    simp only [Bool.and_eq_true] at q
    obtain ⟨q1, q2, q3, q4, q5, q6, q7, q8⟩ := q
    refine ⟨q1, He.eqO_ok q2, He.eqO_ok q3, of_decide_eq_true q4, of_decide_eq_true q5, fun t ht => of_decide_eq_true (List.all_eq_true.mp q6 t ht), fun t ht => of_decide_eq_true (List.all_eq_true.mp q7 t ht), fun c' hc' => ?_⟩
    obtain ⟨h1, h2⟩ := hok c' hc'
    have := List.all_eq_true.mp q8 c' (List.mem_range.mpr h2)
    rcases Bool.or_eq_true_iff.mp this with z | z
    · have := of_decide_eq_true z; omega
    · exact of_decide_eq_true z
  refine ⟨fun c hc => ?_, fun t c d hc e => ?_, fun c c' hc hc' => ?_, fun c t hc ht => ?_⟩
  · obtain ⟨q1, q2, q3, q4, q5, _⟩ := parts c hc
    rw [hca]
    exact ⟨He.cls_ok q1, q2, q3, q4, q5⟩
  · rw [hca]
    refine (parts c hc).2.2.2.2.2.1 t ?_
    cases d <;> cases e <;> decide
  · rw [hca]
    exact (parts c hc).2.2.2.2.2.2.2 c' hc'
  · rw [hca]
    refine (parts c hc).2.2.2.2.2.2.1 (tyN t) ?_
    cases t <;> first | decide | exact absurd rfl (ht _)
/-- the exceptions stand first among the classes -/
theorem caOf_app {K : PySem.W.Frag} {xe ys : List Str} {c : Nat} (h : c < xe.length) : caOf K (xe ++ ys) c = caOf K xe c := by
  unfold caOf
  congr 1
  rw [List.getD_eq_getElem?_getD, List.getD_eq_getElem?_getD, List.getElem?_append_left h]
theorem isB_okA {K : PySem.W.Frag} {xe ys : List Str} {q : Value × List Nat} (h : isB K xe q = true) {c : Nat} (hc : c < xe.length) : PySem.W.kitOne K (.ref (caOf K (xe ++ ys) c)) q.1 = some (q.2.contains c) := by rw [caOf_app hc]; exact isB_ok h hc
theorem exmB_okA {K : PySem.W.Frag} {xe ys : List Str} {q : Addr × List Nat} (h : exmB K xe q = true) {c : Nat} (hc : c < xe.length) : PySem.W.exmOne K (.ref (caOf K (xe ++ ys) c)) (.ref q.1) = some (q.2.contains c) := by rw [caOf_app hc]; exact exmB_ok h hc
theorem noatB_okA {K : PySem.W.Frag} {xe ys : List Str} {f : Str} (h : noatB K xe f = true) {c : Nat} (hc : c < xe.length) : PySem.W.findIn K (.ref (caOf K (xe ++ ys) c)) f = some none := by rw [caOf_app hc]; exact noatB_ok h hc
theorem exnsB_okA {K : PySem.W.Frag} {xe ys : List Str} (h : exnsB K xe = true) {c : Nat} (hc : c < xe.length) : ExcC K (caOf K (xe ++ ys) c) ∧ XfC K (caOf K (xe ++ ys) c) := by rw [caOf_app hc]; exact exnsB_ok h hc
/-- a field that no class of instances has of itself -/
def noinB (K : PySem.W.Frag) (xs : List Str) (m : Nat) (f : Str) : Bool := (List.range xs.length).all fun c => decide (c < m) || He.eqO (PySem.W.findIn K (.ref (caOf K xs c)) f) (some none)
theorem noinB_ok {K : PySem.W.Frag} {xs : List Str} {m c : Nat} {f : Str} (h : noinB K xs m f = true) (h1 : m ≤ c) (h2 : c < xs.length) : NoAttr K (caOf K xs c) f := by
  have := List.all_eq_true.mp h c (List.mem_range.mpr h2)
  rcases Bool.or_eq_true_iff.mp this with z | z
  · have := of_decide_eq_true z; omega
  · exact He.eqO_ok z
end L3

/-! L3W: a lambda with one number as default, handed to the def that tries; defs as values. -/
namespace L3
open PySem PySem.Spec PyProof.Rows L2
/-- one parameter, o, which is no name of the maker's; captured ones and globals -/
structure LamO (N : List Str) (o : Str) (sc scope : Scope) : Prop where
  kind : scope.kind = .function
  co : scope.isCoroutine = false
  gen : scope.isGenerator = false
  own : ∀ y ∈ scope.names, y.2 ≠ .cell ∧ (y.2 = .local → y.1 = o)
  free : ∀ y ∈ scope.names, y.2 = .free → sc.names.lookup y.1 = some .cell ∨ sc.names.lookup y.1 = some .free
  no : o ∉ N
  loc : scope.names.lookup o = some .local
def lamOB (N : List Str) (o : Str) (sc scope : Scope) : Bool :=
  decide (scope.kind = .function) && !scope.isCoroutine && !scope.isGenerator && (scope.names.all fun y => !decide (y.2 = .cell) && (!decide (y.2 = .local) || decide (y.1 = o)) && (!decide (y.2 = .free) || decide (sc.names.lookup y.1 = some .cell) || decide (sc.names.lookup y.1 = some .free))) &&
    !N.contains o && decide (scope.names.lookup o = some .local)
theorem lamO_by {N : List Str} {o : Str} {sc scope : Scope} (h : lamOB N o sc scope = true) : LamO N o sc scope := by
  unfold lamOB at h
  simp only [Bool.and_eq_true, Bool.or_eq_true, Bool.not_eq_true', decide_eq_true_eq, decide_eq_false_iff_not, List.all_eq_true] at h
  obtain ⟨⟨⟨⟨⟨h1, h2⟩, h3⟩, h4⟩, h5⟩, h6⟩ := h
  refine ⟨h1, h2, h3, fun y hy => ⟨(h4 y hy).1.1, fun e => ?_⟩, fun y hy e => ?_, fun m => ?_, h6⟩
  · rcases (h4 y hy).1.2 with z | z
    · exact absurd e z
    · exact z
  · rcases (h4 y hy).2 with (z | z) | z
    · exact absurd e z
    · exact .inl z
    · exact .inr z
  · rw [List.contains_iff_mem.mpr m] at h5; cases h5
section
variable {X : Cx} {o : Str}
theorem LamO.has {scope : Scope} (L : LamO X.N o X.env.scope scope) (ok : X.Ok) : ∀ y ∈ scope.names, y.2 = .free → ∃ c, X.env.cells.lookup y.1 = some c := fun y hy e => by
  rcases L.free y hy e with k | k
  · exact ok.has _ (.inl k)
  · exact ok.has _ (.inr k)
abbrev lamDO (X : Cx) (params : Arguments) (body : Expr) (scope : Scope) (t0 : Addr) (doc pm : Value) (c' : Addr) (ctv : Value) : Obj :=
  PySem.W.kdv_obj "<lambda>" (X.env.qual ++ "<lambda>") params (.expr body) scope (cloFrom X.env.cells scope.names []) (.ref t0) doc pm c' ctv
variable {pins : List (Addr × Obj)} {σ : L2.St} {H HZ : Hp} {s s1 : Shared}
/-- the lambda is made, and the tuple of its default -/
theorem lam_makeO {T : List (Addr × Str)} {c P : Addr} {params : Arguments} {body : Expr} {scope : Scope} {pos cp : Pos} {z : Int} {j : Nat} {E : Value → Shared → Prop} {Q : Value → Shared → Prop} (I : Inv X pins σ H s) (TB : LamX.TabB X.base X.mg c P) (hcode : X.env.code = .ref c)
    (hm : (P, X.env.qual ++ "<lambda>") ∈ T) (hu : ∀ p ∈ T, p.1 = P → p.2 = X.env.qual ++ "<lambda>") (hT : LamX.Tabs T H) (hdef : params.defaults = [.Constant (.int z) j cp]) (hkd : params.kw_defaults = []) (hfree : ∀ y ∈ scope.names, y.2 = .free → ∃ c, X.env.cells.lookup y.1 = some c)
    (h : ∀ (f c' t0 : Addr) (tk : Tok) (doc pm ctv : Value) (H1 : Hp) (s' : Shared), Inv X pins σ H1 s' → LamX.ExtN H H1 → LamX.Tabs T H1 →
      s'.heap.get? f = some (lamDO X params body scope t0 doc pm c' ctv) → s'.heap.get? t0 = some (PySem.W.kdv_tup [.int z tk]) → H1 f = none → H1 t0 = none → f ∉ frs X.stack → t0 ∉ frs X.stack → H1 c' = some (LamX.CodeO c' (X.env.qual ++ "<lambda>")) → Q (.ref f) s') :
    wpAny (model X.prog X.w) X.A (eval (.Lambda params body scope pos) X.env) Q E s := by
  refine PySem.W.kdv_lam (by rw [hdef]; rfl) hkd ?_
  rw [hdef]
  refine PySem.W.kdv_all1 (wpAny_Constant_int ?_)
  refine PySem.W.kdv_all0 ?_
  rw [makeFunction_eq]
  simp only [List.zip_nil_right, List.filterMap_nil, List.isEmpty_nil, List.isEmpty_cons, if_true, pure_bind, Bool.false_eq_true, if_false]
  refine wpAny_bind (wpAny_newTextTuple ?_)
  have I0 := I.tok (s.toks + 1)
  obtain ⟨ps, hP, ht, ha⟩ := hT _ hm
  generalize hs0 : ({ s with toks := s.toks + 1 } : Shared) = s0 at I0 ⊢
  have I1 : Inv X pins σ H { s0 with heap := s0.heap.push (PySem.W.kdv_tup [.int z s.toks]) } := Inv.kept (t' := s0.toks) I0 fun b u e => Heap.get?_push_of_some _ e
  have ht0 : (s0.heap.push (PySem.W.kdv_tup [.int z s.toks])).get? s0.heap.objs.size = some (PySem.W.kdv_tup [.int z s.toks]) := Heap.get?_push_size _ rfl
  have n0 : H s0.heap.objs.size = none := I0.hok.fresh (Nat.le_refl _)
  have nofr : ∀ f, s0.heap.objs.size ≤ f → f ∉ frs X.stack := fun f hf z => by
    rcases List.mem_cons.mp (I0.stkSub _ z) with e | e
    · have h1 := I0.lt
      rw [← e] at h1
      exact Nat.lt_irrefl _ (Nat.lt_of_lt_of_le h1 hf)
    · exact I0.nofs hf e
  have fr0 := nofr _ (Nat.le_refl _)
  have lt0 : s0.heap.objs.size < (s0.heap.push (PySem.W.kdv_tup [.int z s.toks])).objs.size := by rw [Heap.size_push]; omega
  generalize s0.heap.push (PySem.W.kdv_tup [.int z s.toks]) = hp at I1 ht0 lt0 ⊢
  have bP : hp.BuiltinsAt X.mg P := TB.bm.keeps I1.bk
  have hP' : hp.get? P = some { cls := .none, data := .fields ps } := I1.hok P _ hP
  cases hc : codeAmong pos ps.toList with
  | none =>
    refine PySem.W.kdv_makeTail (mg := X.mg) (c := c) (P := P) (ps := ps) (L2.closure_ok hfree) I.ok.glob (I.mod.glob.keeps I1.bk) hcode (TB.code.keeps I1.bk) hP' ht hc TB.gP bP fun c' ctv doc h' tk hx hge hlt hrec htb => ?_
    obtain ⟨c2, oc, vs, t, e2, hoc, hd, hv⟩ := hrec
    cases e2
    have hsz : hp.objs.size ≤ h'.objs.size := Nat.le_trans hge (Nat.le_of_lt hlt)
    have nC : H c' = none := I1.hok.fresh hge
    have I2 := LamX.inv_table (t' := tk) (more := #[rawInt pos.line, rawInt pos.col, .ref c']) (h' := h'.push (lamDO X params body scope s0.heap.objs.size doc ((X.mg "__name__").getD .none) c' ctv)) I1 hP
      (fun b o hb e => Heap.get?_push_of_some _ (hx b o hb e)) (Heap.get?_push_of_some _ htb) hge ⟨oc, vs, t, Heap.get?_push_of_some _ hoc, hd, hv⟩
    have hE : LamX.ExtN H (upd (upd H P (.tbl (ps ++ #[rawInt pos.line, rawInt pos.col, .ref c']))) c' (LamX.CodeO c' (X.env.qual ++ "<lambda>"))) := fun b o e n => by
      rw [upd_ne (ne_of_none e nC), upd_ne (fun z => n ps (Option.some.inj (e.symm.trans (by rw [z]; exact hP))))]
      exact e
    have eL : (ps ++ #[rawInt pos.line, rawInt pos.col, .ref c']).toList = ps.toList ++ [rawInt pos.line, rawInt pos.col, .ref c'] := by simp
    have szP : P < s0.heap.objs.size := Heap.lt_size (I0.hok P _ hP)
    refine h h'.objs.size c' s0.heap.objs.size s.toks doc ((X.mg "__name__").getD .none) ctv _ _ I2 hE (fun p hp => ?_) (Heap.get?_push_size _ rfl) (Heap.get?_push_of_some _ (hx _ _ (Nat.ne_of_gt szP) ht0)) ?_ ?_ (nofr _ (Nat.le_trans (Nat.le_of_lt lt0) hsz)) fr0 upd_same
    · by_cases hb : p.1 = P
      · rw [hu p hp hb, hb]
        refine ⟨_, by rw [upd_ne (ne_of_none hP nC), upd_same], by rw [eL]; exact PySem.TriplesOk_snoc _ _ _ _ ht, fun p' cv hcv => ?_⟩
        rw [eL] at hcv
        rcases LamX.among_app _ ht hcv with z | z
        · obtain ⟨c0, e1, e2⟩ := ha p' cv z
          exact ⟨c0, e1, hE _ _ e2 LamX.codeO_ne⟩
        · exact ⟨c', z, upd_same⟩
      · obtain ⟨ps', a1, a2, a3⟩ := hT p hp
        refine ⟨ps', by rw [upd_ne (ne_of_none a1 nC), upd_ne hb]; exact a1, a2, fun p' cv hcv => ?_⟩
        obtain ⟨c0, e1, e2⟩ := a3 p' cv hcv
        exact ⟨c0, e1, hE _ _ e2 LamX.codeO_ne⟩
    · have n1 : h'.objs.size ≠ c' := Nat.ne_of_gt hlt
      have n2 : h'.objs.size ≠ P := Nat.ne_of_gt (Nat.lt_of_lt_of_le (Heap.lt_size hP') hsz)
      rw [upd_ne n1, upd_ne n2]
      exact I1.hok.fresh hsz
    · have n1 : s0.heap.objs.size ≠ c' := Nat.ne_of_lt (Nat.lt_of_lt_of_le lt0 hge)
      rw [upd_ne n1, upd_ne (Nat.ne_of_gt szP)]
      exact n0
  | some cv =>
    obtain ⟨c', e, hco⟩ := ha pos cv hc
    subst e
    refine PySem.W.kdv_makeTailHit (mg := X.mg) (c := c) (P := P) (ps := ps) (L2.closure_ok hfree) I.ok.glob (I.mod.glob.keeps I1.bk) hcode (TB.code.keeps I1.bk) hP' ht hc bP fun ctv doc h' tk hx hsz => ?_
    have I2 : Inv X pins σ H { s0 with heap := h'.push (lamDO X params body scope s0.heap.objs.size doc ((X.mg "__name__").getD .none) c' ctv), toks := tk } := I1.kept fun b o e => Heap.get?_push_of_some _ (hx b o e)
    exact h h'.objs.size c' s0.heap.objs.size s.toks doc ((X.mg "__name__").getD .none) ctv H _ I2 (LamX.ExtN.refl H) hT (Heap.get?_push_size _ rfl) (Heap.get?_push_of_some _ (hx _ _ ht0)) (I1.hok.fresh hsz) n0 (nofr _ (Nat.le_trans (Nat.le_of_lt lt0) hsz)) fr0 hco
theorem lam_startO {A : Around} {outer : List Env} {E : XK} {scope : Scope} {f c' : Addr} {h₁ : Heap} {tk : Nat} {u : Value} (I : Inv X pins σ H s) (L : LamO X.N o X.env.scope scope) (e0 : Env0 X.prog X.w X.K X.mg X.base A outer s1 HZ) (hd : A.handled = none)
    (un : Un (frs X.stack) [] H HZ s.heap s1.heap) (hns : h₁.Ns s1.heap.objs.size fun y => [(o, u)].reverse.lookup y) (kp : ∀ b o, s1.heap.get? b = some o → h₁.get? b = some o) :
    Inv (LamX.lamCx X A outer s1 HZ E scope f c') [] σ HZ { s1 with heap := h₁, toks := tk } := by
  have hfree := L.has I.ok
  have cm : ∀ {y c}, (cloFrom X.env.cells scope.names []).lookup y = some c → X.env.cells.lookup y = some c := fun {y c} e => by
    rcases cloFrom_mem (PySem.mem_of_lookup e) with hm | ⟨h1, h2⟩
    · cases hm
    · obtain ⟨c1, hc⟩ := hfree _ h1 rfl
      have hc : X.env.cells.lookup y = some c1 := hc
      have e2 : c = c1 := by
        rw [h2, hc] <;> rfl
      rw [e2]
      exact hc
  have look : ∀ {y}, scope.names.lookup y = some .free → ∃ c, (cloFrom X.env.cells scope.names []).lookup y = some c := fun {y} hl => by
    have hy : (y, NameKind.free) ∈ scope.names := PySem.mem_of_lookup hl
    exact mem_lookup (cloFrom_has (cells := X.env.cells) (acc := []) hy)
  have cellK : ∀ {c : Addr} {v : Option Value}, H c = none → s.heap.IsCell c v → h₁.IsCell c v := fun {c v} n ⟨o, ho, hd⟩ => by
    obtain ⟨sl, q⟩ := un.any ho n (by simp)
    exact ⟨_, kp _ _ q, hd⟩
  have noA : ∀ b : Addr, b ∉ (LamX.lamCx X A outer s1 HZ E scope f c').ex := fun b z => absurd (show b ∈ ([] : List Addr) from z) (by simp)
  refine ⟨⟨e0.mod, L.kind, rfl, rfl, Nat.le_refl _, fun y z c e1 e2 => I.ok.inj y z c (cm e1) (cm e2), fun y hy => ?_, fun y c z _ => ?_, fun _ => hd, Around.frames_deeper e0.frames, .inr ⟨rfl, rfl⟩, fun b z => absurd z (noA b), e0.bs, e0.bsz, fun b _ _ => noA b,
      fun b z => absurd z (noA b), e0.funs, e0.frf⟩,
    rfl, e0.bare, Un.kept kp, ⟨_, hns, fun i y v e1 e2 e3 => ?_⟩, fun y c e => ?_, e0.hok.fresh (Nat.le_refl _), fun y c e => ?_, fun q hq => absurd (show q ∈ ([] : List (Addr × Obj)) ++ [] from hq) (by simp), e0.hok.kept kp, I.len⟩
  · have hy : scope.names.lookup y = some .cell ∨ scope.names.lookup y = some .free := hy
    rcases hy with hy | hy
    · exact absurd rfl (L.own _ (PySem.mem_of_lookup hy)).1
    · exact look hy
  · have z : false = true := z
    cases z
  · have e3 : Vis scope y := e3
    have e1 : X.N[i]? = some y := e1
    rcases e3 with k | k | k
    · refine absurd (List.mem_of_getElem? e1) ?_
      have hy : y = o := (L.own _ (PySem.mem_of_lookup k)).2 rfl
      rw [hy]; exact L.no
    · exact absurd rfl (L.own _ (PySem.mem_of_lookup k)).1
    · obtain ⟨m, hn, hl⟩ := I.loc
      have hvis : Vis X.env.scope y := (L.free _ (PySem.mem_of_lookup k) rfl).elim (fun k => .inr (.inl k)) (fun k => .inr (.inr k))
      obtain ⟨w', r, q⟩ := hl i y v e1 e2 hvis
      obtain ⟨c2, h2⟩ := look k
      refine ⟨w', r, .inr ⟨.inr k, c2, h2, ?_⟩⟩
      have c1 := cm h2
      rcases q with ⟨k', _⟩ | ⟨_, c3, e', z⟩
      · have k' : X.env.scope.names.lookup y = some .local := k'
        rcases L.free _ (PySem.mem_of_lookup k) rfl with k2 | k2 <;> rw [show X.env.scope.names.lookup y = _ from k2] at k' <;> cases k'
      · rw [c1] at e'
        cases e'
        exact cellK (I.freeC y _ c1) z
  · obtain ⟨w', z⟩ := I.cell y c (cm e)
    exact ⟨w', cellK (I.freeC y c (cm e)) z⟩
  · obtain ⟨v, o, ho, hd⟩ := I.cell y c (cm e)
    exact un.free c o ho (I.freeC y c (cm e)) (by simp)
/-- how the default is bound -/
def BindO (params : Arguments) (body : Expr) (scope : Scope) (o : Str) : Prop := ∀ (q : Str) (cl : List (Str × Addr)) (dV doc pm cv ctv : Value), ∃ k : Option (Array Value) → Sem (List (Str × Value)),
  bindArgs (PySem.W.kdv_fn "<lambda>" q params (.expr body) scope cl dV doc pm cv ctv) ⟨[], []⟩ = seqItems? dV >>= k ∧ ∀ v, k (some #[v]) = pure [(o, v)]
theorem pe_actO {CXg : CXT} {Eg : XK} {Ng : List Str} {qg : Str} {sg : Scope} {g f c' t0 : Addr} {cdg doc pm ctv : Value} {params : Arguments} {body : Expr} {scope : Scope} {k i : Nat} {a : Str} {z : Int} {tk0 : Tok} {pn : List (Addr × Obj)} {xe : Value → Shared → Prop} {W : WX} {E : XK} {tb : TE} {p1 p2 : Pos}
    (I : Inv X pins σ H s) (L : LamO X.N o X.env.scope scope) (hf : s.heap.get? f = some (lamDO X params body scope t0 doc pm c' ctv)) (ht0 : s.heap.get? t0 = some (PySem.W.kdv_tup [.int z tk0])) (hfn : H f = none) (htn : H t0 = none) (hfr : f ∉ frs X.stack) (htr : t0 ∉ frs X.stack)
    (hbind : BindO params body scope o)
    (tk : Takes ((cxOf CXg X.prog X.w X.K X.mg X.base Ng qg sg g cdg X.A X.stack s H Eg).tr pn xe) W) (hW : ∀ cls d σ' H', E cls d H' → W cls d σ' H') (hr : Room (k + 1) (X.A.deeper (envOfC qg sg s.heap.objs.size g cdg)))
    (hbody : ∀ (A : Around) (outer : List Env) (s : Shared) (H : Hp), Room k (A.deeper (LamX.lamEnv X scope s.heap.objs.size f c')) → PE (LamX.lamCx X A outer s H E scope f c') body tb)
    (hN : Ng[i]? = some a) (hv : Vis sg a) (hd : (a == ("__debug__" : Str)) = false := by decide) (hcd : (a == ("__classdict__" : Str)) = false := by decide) :
    PE ((cxOf CXg X.prog X.w X.K X.mg X.base Ng qg sg g cdg X.A X.stack s H Eg).tr pn xe) (.Call (.Name a p1) [] [] p2)
      (fun σZ HZ Q => σZ[i]? = some (some (.ref f)) ∧ HZ c' = some (LamX.CodeO c' (X.env.qual ++ "<lambda>")) ∧ tb σ HZ Q) := by
  refine ⟨fun pinsZ sZ σZ HZ Q IZ h => ?_⟩
  obtain ⟨hs, hc, ht⟩ := h
  refine wpAny_Call_Name_kw (thn ((pe_var (pos := p1) (i := i) hN hv hd hcd).run pinsZ sZ σZ HZ (fun v H1 => v = .ref f ∧ H1 = HZ) IZ ⟨.ref f, hs, rfl, rfl⟩) fun u s1 ⟨v, H1, I1, r1, q1⟩ => ?_)
  obtain ⟨ev, eH⟩ := q1
  subst ev
  rw [eH] at I1
  obtain rfl : u = Value.ref f := r1
  have of1 : s1.heap.get? f = some (lamDO X params body scope t0 doc pm c' ctv) := I1.base.keep f _ hf hfn hfr (fun z => nomatch (show f ∈ ([] : List Addr) from z))
  have ot1 : s1.heap.get? t0 = some (PySem.W.kdv_tup [.int z tk0]) := I1.base.keep t0 _ ht0 htn htr (fun z => nomatch (show t0 ∈ ([] : List Addr) from z))
  refine PySem.W.callWith_F0 ⟨_, _, _, _, of1⟩ ?_
  have un : Un (frs X.stack) [] H HZ s.heap s1.heap := I1.base
  obtain ⟨⟨oc, vs, t, hoc, hdc, hvc⟩, _, _⟩ := I1.hok c' _ hc
  have rc : codeAny (model X.prog X.w) (X.A.deeper (envOfC qg sg s.heap.objs.size g cdg)) (.call (.ref f) ⟨[], []⟩) (CR (L2.CX X.prog X.w) (envOfC qg sg s.heap.objs.size g cdg :: X.stack) X.prog X.w HZ s1 Q E) s1 := by
    refine PySem.W.kla_callFunE hr.depth of1 rfl L.co L.gen rfl ⟨c', oc, vs, t, rfl, hoc, hdc, hvc⟩ ?_
    obtain ⟨kk, e1, e2⟩ := hbind (X.env.qual ++ "<lambda>") (cloFrom X.env.cells scope.names []) (.ref t0) doc pm (.ref c') ctv
    refine BindsTo.of_defaults (fd := PySem.W.kdv_fn "<lambda>" (X.env.qual ++ "<lambda>") params (.expr body) scope (cloFrom X.env.cells scope.names []) (.ref t0) doc pm (.ref c') ctv) (binds := [(o, .int z tk0)]) rfl ot1 rfl e1 (e2 _) _ _ _ _ ?_
    refine wpAny_newFunctionEnv (fun y hy => (L.own y hy).1) (fun y hy => by rcases List.mem_singleton.mp hy with rfl; exact L.loc) (fun h₁ hns hsb => ⟨I1.nolimit.fresh _ hsb, ?_⟩) L.kind
    show codeAny _ _ (.expr body (LamX.lamEnv X scope s1.heap.objs.size f c')) _ _
    have kp : ∀ b o, s1.heap.get? b = some o → h₁.get? b = some o := fun b o e => hsb.extBut b o (Nat.ne_of_lt (Heap.lt_size e)) (Heap.get?_push_of_some _ e)
    have J := lam_startO (A := X.A.deeper (envOfC qg sg s.heap.objs.size g cdg)) (outer := envOfC qg sg s.heap.objs.size g cdg :: X.stack) (E := E) (f := f) (c' := c') (tk := s1.toks + [(o, Value.int z tk0)].length) I L I1.env0 hr.hd un hns kp
    refine PySem.W.kla_codeExpr (wpAny_mono ((hbody _ _ s1 HZ (hr.deeper _)).run [] _ _ HZ Q J ht) (fun v s' hq => ?_) fun e s' hq => hq)
    obtain ⟨w', H', J', rv, q⟩ := hq
    exact ⟨w', H', J'.os, J'.bare, J'.base, J'.hok, rv, q⟩
  have hx : Passes (L2.CX X.prog X.w) ((cxOf CXg X.prog X.w X.K X.mg X.base Ng qg sg g cdg X.A X.stack s H Eg).tr pn xe) E := L2.passes_call tk hW
  refine wpAny_call (codeAny_mono rc fun r s' hq => ?_)
  cases r with
  | error e => exact hx pinsZ σZ HZ s1 e s' I1 hq
  | ok fl =>
    cases fl with
    | ret u => exact I1.after hq
    | next => exact False.elim hq
    | brk => exact False.elim hq
    | cont => exact False.elim hq
/-- x(lambda o=z: body) -/
theorem pe_lamcallO {T : List (Addr × Str)} {TT : (XK → Hp → VK → Prop) → Hp → VK → Prop} {x a : Str} {g c P : Addr} {k j : Nat} {z : Int} {pg : Arguments} {bg : List Stmt} {sg : Scope} {dV kV doc pm cdv ct oc : Value} {an od : Option Addr} {osl : Array (Option Value)} {Ng : List Str}
    {params : Arguments} {body : Expr} {scope : Scope} {t : XK → TE} {p lpos pos cp : Pos} (hg : Gl X x) (hm : X.mg x = some (.ref g)) (hk : PySem.W.keepIn X.K (.ref g) = true)
    (lk : X.K.lookup g = some ⟨oc, od, .func (PySem.W.fnOf x x pg bg sg dV kV doc pm an cdv ct), osl⟩) (hcg : PySem.W.codeIn X.K cdv x = true) (hb : L2.Binds X.K (PySem.W.fnOf x x pg bg sg dV kV doc pm an cdv ct) [a] []) (Sg : FnScope Ng [a] sg) (hNg : Ng[0]? = some a) (hva : Vis sg a)
    (hG : LamX.GivesTo X Ng x sg g cdv bg a (X.env.qual ++ "<lambda>") TT)
    (TB : LamX.TabB X.base X.mg c P) (hcode : X.env.code = .ref c) (hmT : (P, X.env.qual ++ "<lambda>") ∈ T) (hu : ∀ p ∈ T, p.1 = P → p.2 = X.env.qual ++ "<lambda>") (hr : Room (k + 2) X.A) (L : LamO X.N o X.env.scope scope) (hdef : params.defaults = [.Constant (.int z) j cp]) (hkd : params.kw_defaults = [])
    (hbind : BindO params body scope o)
    (hbody : ∀ (A : Around) (outer : List Env) (s : Shared) (H : Hp) (E : XK) (f c' : Addr), Room k (A.deeper (LamX.lamEnv X scope s.heap.objs.size f c')) → PE (LamX.lamCx X A outer s H E scope f c') body (t E))
    (hdb : (x == ("__debug__" : Str)) = false := by decide) (hd : (a == ("__debug__" : Str)) = false := by decide) (hcd : (a == ("__classdict__" : Str)) = false := by decide) :
    PE X (.Call (.Name x p) [.Lambda params body scope lpos] [] pos) (LamX.tLam T TT t) := by
  refine ⟨fun pins s σ H Q I h => ?_⟩
  obtain ⟨hT, h⟩ := h
  refine wpAny_Call_Name_kw (ld_glob I hg hm ?_ hdb)
  refine PySem.W.callWith_K (h₀ := X.base) I.ok.mod.kin hk ?_ (by rfl) (by rfl)
  show wpAny _ _ (spliced ((false, eval (.Lambda params body scope lpos) X.env) :: backTo pos (starEach [] X.env))) _ _ s
  refine Calls.spliced_cons (lam_makeO I TB hcode hmT hu hT hdef hkd (L.has I.ok) fun f c' t0 tk0 doc' pm' ctv H1 s' I1 eN T1 hf ht0 hfn htn hfr htr hco => ?_)
  refine Calls.spliced_nil ⟨I1.kIn, ?_⟩
  have rc : codeAny (model X.prog X.w) X.A (.call (.ref g) ⟨[.ref f], []⟩) (CR C8.CX0 X.stack X.prog X.w H1 s' Q C8.E0) s' := by
    refine LamX.run_ofS (N := Ng) (ps := [a]) (us := [.ref f]) (vs := [.ref f]) lk hcg Sg hr I1.env0 (hb s' [.ref f] I1.kIn rfl) (.cons rfl .nil) rfl fun hr' => ?_
    obtain ⟨t', ht', hq'⟩ := hG f c' s' H1 Q (fun E H' Q' => t E σ H' Q') (fun W pn xe E p1 p2 tk hW => pe_actO (i := 0) I1 L hf ht0 hfn htn hfr htr hbind tk hW hr' (fun A outer s H hr2 => hbody A outer s H E f c' hr2) hNg hva hd hcd) hco (h H1 eN T1)
    exact ⟨t', ht'.nox, hq'⟩
  refine wpAny_call (codeAny_mono rc fun r s2 hq => ?_)
  cases r with
  | error e => exact (show False from hq).elim
  | ok fl =>
    cases fl with
    | ret u => exact I1.after hq
    | next => exact False.elim hq
    | brk => exact False.elim hq
    | cont => exact False.elim hq
end
section
variable {X : Cx} {Y : Wd} {W : WX} {U : Ev}
theorem s_lamO {f : Nat} {e' : E} {x a o : Str} {g c P : Addr} {k j : Nat} {z : Int} {pg : Arguments} {bg : List Stmt} {sg : Scope} {Ng : List Str} {params : Arguments} {body : Expr} {scope : Scope} {p lpos pos cp : Pos}
    (D : WordOk X.K X.mg x g pg bg sg a) (Sg : FnScope Ng [a] sg) (hG : ∀ cdv, (∀ args, U.C f args = .bad) ∨ LamX.GivesTo X Ng x sg g cdv bg a (X.env.qual ++ "<lambda>") (TTw Y (U.C f)))
    (TB : LamX.TabB X.base X.mg c P) (hcode : X.env.code = .ref c) (hmT : (P, X.env.qual ++ "<lambda>") ∈ Y.T) (nd : (Y.T.map (·.1)).Nodup) (hr : Room (k + 2) X.A) (L : lamOB X.N o X.env.scope scope = true) (hbind : BindO params body scope o)
    (hbody : ∀ (A : Around) (outer : List Env) (s : Shared) (H : Hp) (E : XK) (f c' : Addr), Room k (A.deeper (LamX.lamEnv X scope s.heap.objs.size f c')) → PE (LamX.lamCx X A outer s H E scope f c') body (rdE Y (wE E) U e'))
    (hg : Gl X x := by rfl) (hNg : Ng[0]? = some a := by rfl) (hva : Vis sg a := by first | exact Or.inl rfl | exact Or.inr (Or.inl rfl) | exact Or.inr (Or.inr rfl)) (hdef : params.defaults = [.Constant (.int z) j cp] := by rfl) (hkd : params.kw_defaults = [] := by rfl)
    (hdb : (x == ("__debug__" : Str)) = false := by decide) (hd : (a == ("__debug__" : Str)) = false := by decide) (hcd : (a == ("__classdict__" : Str)) = false := by decide) :
    PE X (.Call (.Name x p) [.Lambda params body scope lpos] [] pos) (rdE Y W U (.lam f e')) := by
  obtain ⟨oc, od, dV, kV, doc, pm, an, cdv, ct, osl, lk, hcg, hb⟩ := D.ex
  rcases hG cdv with hb0 | hG
  · refine ⟨fun pins s σ H Q I h => ?_⟩
    obtain ⟨G, R, en, S, p⟩ := h
    rw [evE] at p
    simp only [hb0] at p
    split at p <;> exact p.elim
  · exact (pe_lamcallO hg D.hm D.hk lk hcg hb Sg hNg hva hG TB hcode hmT (hu_of nd hmT) hr (lamO_by L) hdef hkd hbind hbody hdb hd hcd).imp fun _ _ _ q => lam_red q
end
/-- the defs that are values, with where they are -/
def fvOf (K : PySem.W.Frag) : List (Nat × (Str × Option Str)) → Nat → Addr → Prop
  | [], _, _ => False
  | p :: ps, n, a => (n = p.1 ∧ a = He.fAd K p.2) ∨ fvOf K ps n a
section
variable {X : Cx} {Y : Wd} {W : WX} {U : Ev}
/-- a def as a value -/
theorem s_fnv {x : Str} {n : Nat} {at_ : Str × Option Str} {ps : List Str} {pos : Pos} (D : DefOk X.K X.mg x at_ ps) (h : Y.fv n (He.fAd X.K at_)) (hg : Gl X x := by rfl) (hd : (x == ("__debug__" : Str)) = false := by decide) : PE X (.Name x pos) (rdE Y W U (.cst (.set [(n : Int)]))) :=
  s_const (pe_glob (v := .ref (He.fAd X.K at_)) hg D.hm (show RelV (.ref _) (.ref _) from rfl) hd) fun _ => .fnv h
def CanCall (X : Cx) (Y : Wd) (U : Ev) (k f : Nat) (a : Addr) : Prop := ∃ fd ps, FnOk X.prog X.w X.K X.mg X.base (L2.CX X.prog X.w) k a fd ps (spF Y (U.C f)) ∧ PySem.W.keepIn X.K (.ref a) = true ∧ Binds X.K fd ps []
/-- a(e, ..), a local name that holds a def -/
theorem s_callL {i k : Nat} {fs : List Nat} {x : Str} {p pos : Pos} {e : Expr} {es : List Expr} {as' : Es} (A : ∀ f a, Y.fv f a → CanCall X Y U k f a) (hr : Room k X.A) (tk : Takes X W) (ha : PA X (e :: es) (rdA Y W U as')) (hN : X.N[i]? = some x := by rfl) (hv : Vis X.env.scope x := by first | exact Or.inl rfl | exact Or.inr (Or.inl rfl) | exact Or.inr (Or.inr rfl))
    (hdb : (x == ("__debug__" : Str)) = false := by decide) (hcd : (x == ("__classdict__" : Str)) = false := by decide) (he : starEach (e :: es) X.env = (false, eval e X.env) :: starEach es X.env := by rfl) (hpl : (backTo pos (starEach es X.env)).any (·.1) = false := by rfl) :
    PE X (.Call (.Name x p) (e :: es) [] pos) (rdE Y W U (.cl i fs as')) := by
  refine ⟨fun pins s σ H Q I h => ?_⟩
  obtain ⟨G, R, en, S, p⟩ := h
  rw [evE] at p
  split at p
  · rename_i ow m ei
    split at p
    · rename_i hh
      have ho : ow.isOwn = false := by cases ow <;> simp_all [Ow.isOwn]
      obtain ⟨v, hs, r⟩ := S.sh i ow _ ei ho
      cases r with
      | fnv hv1 =>
        rename_i a n
        obtain ⟨fd, ps, F, hk, hb⟩ := A n a hv1
        simp only [Int.toNat_natCast] at p
        refine wpAny_Call_Name_kw (thn ((pe_var (pos := _) hN hv hdb hcd).run pins s σ H (fun v H1 => v = .ref a ∧ H1 = H) I ⟨.ref a, hs, rfl, rfl⟩) fun u s1 ⟨v, H1, I1, r1, q1⟩ => ?_)
        obtain ⟨rfl, rfl⟩ := q1
        cases r1
        refine PySem.W.callWith_K (h₀ := X.base) I.ok.mod.kin hk (thn (ha.run pos pins s1 σ _ (fun vs H1 => spF Y (U.C n) vs H1 Q (WE W σ)) I1 ⟨G, R, en, S, ?_⟩) fun us s2 ⟨vs, H2, I2, r, q⟩ => ⟨I2.kIn, ?_⟩) he hpl
        · refine Pst.bind p fun avs en1 vs H1 G1 _ s1 k1 S1 o1 p1 => ?_
          unfold doCall at p1
          split at p1
          · exact p1.elim
          · rename_i args ep
            obtain ⟨P, _⟩ := pass_ok S1 ep o1
            refine ⟨G1, _, args, pass_sep S1 P, ?_⟩
            split at p1
            · exact p1.elim
            · rename_i d own outs ec
              rw [ec]
              split at p1
              · rename_i en2 eb
                have B := back_ok eb P.nd
                intro v H2 G2 s2 S2 o2
                obtain ⟨h1, h2, h3⟩ := back_sep S1 P s2 S2 B
                exact p1 v H2 G2 s2 h2 h1 (h3 v d own o2)
              · exact p1.elim
            · rename_i x outs ec
              rw [ec]
              split at p1
              · rename_i en2 eb
                have B := back_ok eb P.nd
                intro cls dd H2 G2 s2 S2 o2
                obtain ⟨h1, h2, h3⟩ := back_sep S1 P s2 S2 B
                exact p1 cls dd H2 G2 s2 h2 h1 o2
              · exact p1.elim
        · exact run_fnS F hr hb (passAt tk σ) I2 r q
    · exact p.elim
  · exact p.elim
end
end L3

namespace Law
open PySem PySem.Spec PyProof.Rows L2 L3
/-! ### the mini programs -/
def fn_is_integer : Fn := ⟨1, 1, [true], (.cons (.ret (.and (.op (.isi [.int]) (.cons (.pk 0) .nil)) (.nt (.op (.isi [.bool]) (.cons (.pk 0) .nil))))) .nil)⟩
def fn_is_within : Fn := ⟨3, 3, [true, true, true], (.cons (.ret (.and (.call 0 (.cons (.pk 0) .nil)) (.chn .le .le (.pk 1) (.pk 0) (.pk 2)))) .nil)⟩
def fn_common : Fn := ⟨2, 2, [false, false], (.cons (.par [0, 1] (.cons (.op .abs (.cons (.pk 0) .nil)) (.cons (.op .abs (.cons (.pk 1) .nil)) .nil))) (.cons (.whl (.op .gt (.cons (.pk 1) (.cons (.cst (.int 0)) .nil))) (.cons (.par [0, 1] (.cons (.var 1) (.cons (.op .mod (.cons (.pk 0) (.cons (.pk 1) .nil))) .nil))) .nil)) (.cons (.ret (.var 0)) .nil)))⟩
def fn_common_of : Fn := ⟨1, 3, [true], (.cons (.asg (.nm 1) (.cst (.int 0))) (.cons (.frp (.nm 2) 0 (.cons (.asg (.nm 1) (.call 2 (.cons (.var 1) (.cons (.var 2) .nil)))) .nil)) (.cons (.ret (.mv 1)) .nil)))⟩
def fn_BadCoins___init__ : Fn := ⟨0, 0, [], .nil⟩
def fn_round_up : Fn := ⟨4, 9, [true, true, true, true], (.cons (.asg (.nm 4) (.call 3 (.cons (.op .lst (.cons (.var 2) (.cons (.var 3) .nil))) .nil))) (.cons (.fr (.nm 5) .rng1 (.cons (.var 4) .nil) (.cons (.asg (.nm 6) (.var 5)) (.cons (.fr (.nm 7) .rng1 (.cons (.op .mul (.cons (.cst (.int 2)) (.cons (.op .fdiv (.cons (.pk 3) (.cons (.pk 4) .nil))) .nil))) .nil) (.cons (.asg (.nm 8) (.op .mod (.cons (.op .add (.cons (.pk 6) (.cons (.pk 2) .nil))) (.cons (.pk 3) .nil)))) (.cons (.ife (.and (.op .notN (.cons (.op .idx (.cons (.pk 0) (.cons (.pk 6) .nil))) .nil)) (.or (.op .isN (.cons (.op .idx (.cons (.pk 0) (.cons (.pk 8) .nil))) .nil)) (.op .lt (.cons (.op .add (.cons (.op .idx (.cons (.pk 0) (.cons (.pk 6) .nil))) (.cons (.pk 1) .nil))) (.cons (.op .idx (.cons (.pk 0) (.cons (.pk 8) .nil))) .nil))))) (.cons (.seti 0 (.op .add (.cons (.op .idx (.cons (.pk 0) (.cons (.pk 6) .nil))) (.cons (.pk 1) .nil))) (.var 8)) .nil) .nil) (.cons (.asg (.nm 6) (.var 8)) .nil)))) .nil))) .nil))⟩
def fn_built : Fn := ⟨1, 6, [true], (.cons (.asg (.nm 1) (.op .idx (.cons (.pk 0) (.cons (.cst (.int 0)) .nil)))) (.cons (.par [2, 3] (.cons (.op .lst (.cons (.var 1) .nil)) (.cons (.op .add (.cons (.op .lst (.cons (.cst (.int 0)) .nil)) (.cons (.op .rep (.cons (.op .lst (.cons (.cst .non) .nil)) (.cons (.op .sub (.cons (.pk 1) (.cons (.cst (.int 1)) .nil))) .nil))) .nil))) .nil))) (.cons (.fr (.nm 4) .seq (.cons (.slA (.pk 0) (.cst (.int 1))) .nil) (.cons (.asg (.nm 5) (.op .idx (.cons (.pk 3) (.cons (.op .mod (.cons (.pk 4) (.cons (.pk 1) .nil))) .nil)))) (.cons (.ife (.or (.op .isN (.cons (.pk 5) .nil)) (.op .gt (.cons (.pk 5) (.cons (.pk 4) .nil)))) (.cons (.ex (.mt .app 2 (.cons (.var 4) .nil))) (.cons (.ex (.call 5 (.cons (.pk 3) (.cons (.pk 4) (.cons (.op .mod (.cons (.pk 4) (.cons (.pk 1) .nil))) (.cons (.pk 1) .nil)))))) .nil)) .nil) .nil))) (.cons (.ret (.op .tup (.cons (.var 2) (.cons (.var 3) .nil)))) .nil))))⟩
def fn_check_coins : Fn := ⟨1, 3, [true], (.cons (.ife (.or (.nt (.op (.isi [.tup]) (.cons (.pk 0) .nil))) (.op .eq (.cons (.op .len (.cons (.pk 0) .nil)) (.cons (.cst (.int 0)) .nil)))) (.cons (.rse 3 ["at"] (.cons (.op .neg (.cons (.cst (.int 1)) .nil)) .nil)) .nil) .nil) (.cons (.fr (.tp [1, 2]) .enm (.cons (.var 0) .nil) (.cons (.ife (.or (.op .ge (.cons (.pk 1) (.cons (.op (.glb (.int 700)) .nil) .nil))) (.or (.nt (.call 1 (.cons (.pk 2) (.cons (.cst (.int 1)) (.cons (.op (.glb (.int 1000000)) .nil) .nil))))) (.op .inn (.cons (.pk 2) (.cons (.slB (.pk 0) (.var 1)) .nil))))) (.cons (.rse 3 ["at"] (.cons (.var 1) .nil)) .nil) .nil) .nil)) (.cons (.ife (.or (.op .gt (.cons (.op .min (.cons (.pk 0) .nil)) (.cons (.op (.glb (.int 2000)) .nil) .nil))) (.op .ne (.cons (.call 3 (.cons (.pk 0) .nil)) (.cons (.cst (.int 1)) .nil)))) (.cons (.rse 3 ["at"] (.cons (.op .neg (.cons (.cst (.int 1)) .nil)) .nil)) .nil) .nil) .nil)))⟩
def fn_System___init__ : Fn := ⟨2, 4, [true, true], (.cons (.ex (.call 7 (.cons (.pk 1) .nil))) (.cons (.setf "coins" 0 (.op .tupOf (.cons (.op .srt (.cons (.pk 1) .nil)) .nil))) (.cons (.asg (.tp [2, 3]) (.call 6 (.cons (.op .lstOf (.cons (.op (.fld "coins") (.cons (.pk 0) .nil)) .nil)) .nil))) (.cons (.setf "needed_coins" 0 (.op .tupOf (.cons (.pk 2) .nil))) (.cons (.setf "rests" 0 (.op .tupOf (.cons (.pk 3) .nil))) .nil)))))⟩
def fn_System___eq__ : Fn := ⟨0, 0, [], .nil⟩
def fn_check_system : Fn := ⟨1, 1, [true], (.cons (.ife (.nt (.op (.isi [(.cls 4)]) (.cons (.pk 0) .nil))) (.cons (.rse 2 [] .nil) .nil) .nil) .nil)⟩
def fn_pays_of : Fn := ⟨2, 2, [true, true], (.cons (.ret (.and (.op .ge (.cons (.pk 1) (.cons (.cst (.int 0)) .nil))) (.op .le (.cons (.op .idx (.cons (.op (.fld "rests") (.cons (.pk 0) .nil)) (.cons (.op .mod (.cons (.pk 1) (.cons (.op .len (.cons (.op (.fld "rests") (.cons (.pk 0) .nil)) .nil)) .nil))) .nil))) (.cons (.pk 1) .nil))))) .nil)⟩
def fn_order_mark : Fn := ⟨2, 6, [true, true], (.cons (.ex (.call 10 (.cons (.pk 0) .nil))) (.cons (.ife (.nt (.call 1 (.cons (.pk 1) (.cons (.cst (.int 0)) (.cons (.op (.glb (.int 2000)) .nil) .nil))))) (.cons (.rse 1 [] .nil) .nil) .nil) (.cons (.asg (.nm 2) (.op .lst .nil)) (.cons (.fr (.nm 3) .rng1 (.cons (.op .add (.cons (.pk 1) (.cons (.cst (.int 1)) .nil))) .nil) (.cons (.ife (.nt (.call 11 (.cons (.pk 0) (.cons (.pk 3) .nil)))) (.cons (.ex (.mt .app 2 (.cons (.cst (.int 0)) .nil))) .nil) (.cons (.asg (.nm 4) (.op .sum (.cons (.lc [5] (.nm 5) .rng1 (.cons (.var 3) .nil) (.call 11 (.cons (.pk 0) (.cons (.op .sub (.cons (.pk 3) (.cons (.pk 5) .nil))) .nil))) (.op .idx (.cons (.pk 2) (.cons (.pk 5) .nil)))) .nil))) (.cons (.ex (.mt .app 2 (.cons (.ite (.op .eq (.cons (.pk 3) (.cons (.cst (.int 0)) .nil))) (.cst (.int 1)) (.op .neg (.cons (.pk 4) .nil))) .nil))) .nil))) .nil)) (.cons (.ret (.op .tupOf (.cons (.pk 2) .nil))) .nil)))))⟩
def fn__law_hand : Fn := ⟨1, 2, [true], (.cons (.ret (.op .lst (.cons (.lc [1] (.nm 1) .seq (.cons (.slB (.pk 0) (.cst (.int 63))) .nil) (.cst (.bl true)) (.op .abs (.cons (.op .int (.cons (.pk 1) .nil)) .nil))) (.cons (.cst (.int 0)) (.cons (.cst (.int 0)) (.cons (.op .add (.cons (.cst (.int 271)) (.cons (.op .mul (.cons (.cst (.int 3)) (.cons (.op .len (.cons (.slB (.pk 0) (.cst (.int 63))) .nil)) .nil))) .nil))) (.cons (.cst (.int 0)) .nil))))))) .nil)⟩
def fn__law_draw : Fn := ⟨2, 5, [true, true], (.cons (.ife (.and (.op .eq (.cons (.op .idx (.cons (.pk 0) (.cons (.cst (.int 2)) .nil))) (.cons (.cst (.int 0)) .nil))) (.op .lt (.cons (.op .idx (.cons (.pk 0) (.cons (.cst (.int 1)) .nil))) (.cons (.op .len (.cons (.op .idx (.cons (.pk 0) (.cons (.cst (.int 0)) .nil))) .nil)) .nil)))) (.cons (.asg (.nm 2) (.op .idx (.cons (.op .idx (.cons (.pk 0) (.cons (.cst (.int 0)) .nil))) (.cons (.op .idx (.cons (.pk 0) (.cons (.cst (.int 1)) .nil))) .nil)))) (.cons (.seti 0 (.op .add (.cons (.op .idx (.cons (.pk 0) (.cons (.cst (.int 1)) .nil))) (.cons (.cst (.int 1)) .nil))) (.cst (.int 1))) (.cons (.seti 0 (.op .mod (.cons (.op .int (.cons (.op .add (.cons (.op .add (.cons (.op .mul (.cons (.op .idx (.cons (.pk 0) (.cons (.cst (.int 3)) .nil))) (.cons (.cst (.int 69621)) .nil))) (.cons (.op .mul (.cons (.pk 2) (.cons (.cst (.int 40692)) .nil))) .nil))) (.cons (.cst (.int 233)) .nil))) .nil)) (.cons (.cst (.int 2147483629)) .nil))) (.cst (.int 3))) (.cons (.ife (.op .ge (.cons (.pk 2) (.cons (.op .pow (.cons (.cst (.int 10)) (.cons (.cst (.int 18)) .nil))) .nil))) (.cons (.seti 0 (.var 2) (.cst (.int 2))) .nil) .nil) .nil)))) .nil) (.cons (.ife (.op .gt (.cons (.op .idx (.cons (.pk 0) (.cons (.cst (.int 2)) .nil))) (.cons (.cst (.int 0)) .nil))) (.cons (.asg (.nm 3) (.op .mod (.cons (.op .int (.cons (.op .idx (.cons (.pk 0) (.cons (.cst (.int 2)) .nil))) .nil)) (.cons (.pk 1) .nil)))) (.cons (.seti 0 (.op .fdiv (.cons (.op .idx (.cons (.pk 0) (.cons (.cst (.int 2)) .nil))) (.cons (.pk 1) .nil))) (.cst (.int 2))) (.cons (.ret (.mv 3)) .nil))) .nil) (.cons (.seti 0 (.op .add (.cons (.op .idx (.cons (.pk 0) (.cons (.cst (.int 4)) .nil))) (.cons (.cst (.int 1)) .nil))) (.cst (.int 4))) (.cons (.asg (.nm 4) (.op .mod (.cons (.op .int (.cons (.op .mul (.cons (.op .int (.cons (.op .add (.cons (.op .idx (.cons (.pk 0) (.cons (.cst (.int 3)) .nil))) (.cons (.op .mul (.cons (.cst (.int 7919)) (.cons (.op .idx (.cons (.pk 0) (.cons (.cst (.int 4)) .nil))) .nil))) .nil))) .nil)) (.cons (.cst (.int 48271)) .nil))) .nil)) (.cons (.cst (.int 2147483647)) .nil)))) (.cons (.asg (.nm 4) (.op .mod (.cons (.op .int (.cons (.op .mul (.cons (.pk 4) (.cons (.op .add (.cons (.op .fdiv (.cons (.pk 4) (.cons (.cst (.int 1009)) .nil))) (.cons (.cst (.int 69621)) .nil))) .nil))) .nil)) (.cons (.cst (.int 2147483647)) .nil)))) (.cons (.asg (.nm 4) (.op .mod (.cons (.op .int (.cons (.op .mul (.cons (.pk 4) (.cons (.op .add (.cons (.op .fdiv (.cons (.pk 4) (.cons (.cst (.int 2003)) .nil))) (.cons (.cst (.int 40014)) .nil))) .nil))) .nil)) (.cons (.cst (.int 2147483563)) .nil)))) (.cons (.ret (.op .mod (.cons (.op .int (.cons (.op .fdiv (.cons (.pk 4) (.cons (.cst (.int 16)) .nil))) .nil)) (.cons (.pk 1) .nil)))) .nil)))))))⟩
def fn__law_any : Fn := ⟨2, 2, [true, true], (.cons (.ret (.op .idx (.cons (.pk 1) (.cons (.call 14 (.cons (.pk 0) (.cons (.op .len (.cons (.pk 1) .nil)) .nil))) .nil)))) .nil)⟩
def fn__law_same : Fn := ⟨2, 4, [true, true], (.cons (.ife (.op (.isi [.tup, .lst]) (.cons (.pk 1) .nil)) (.cons (.ife (.or (.op .ne (.cons (.op (.isi [.tup]) (.cons (.pk 0) .nil)) (.cons (.op (.isi [.tup]) (.cons (.pk 1) .nil)) .nil))) (.nt (.op (.isi [.tup, .lst]) (.cons (.pk 0) .nil)))) (.cons (.ret (.cst (.bl false))) .nil) .nil) (.cons (.ret (.and (.op .eq (.cons (.op .len (.cons (.pk 0) .nil)) (.cons (.op .len (.cons (.pk 1) .nil)) .nil))) (.op .all (.cons (.lc [2, 3] (.tp [2, 3]) .zip (.cons (.var 0) (.cons (.var 1) .nil)) (.cst (.bl true)) (.call 16 (.cons (.pk 2) (.cons (.pk 3) .nil)))) .nil)))) .nil)) .nil) (.cons (.ife (.or (.op (.isi [.bool]) (.cons (.pk 1) .nil)) (.or (.op (.isi [.bool]) (.cons (.pk 0) .nil)) (.or (.op .isN (.cons (.pk 1) .nil)) (.op .isN (.cons (.pk 0) .nil))))) (.cons (.ret (.and (.op .eq (.cons (.op (.isi [.bool]) (.cons (.pk 0) .nil)) (.cons (.op (.isi [.bool]) (.cons (.pk 1) .nil)) .nil))) (.and (.op .eq (.cons (.op .isN (.cons (.pk 0) .nil)) (.cons (.op .isN (.cons (.pk 1) .nil)) .nil))) (.op .eq (.cons (.pk 0) (.cons (.pk 1) .nil)))))) .nil) .nil) (.cons (.ret (.and (.op .eq (.cons (.op (.isi [.str]) (.cons (.pk 0) .nil)) (.cons (.op (.isi [.str]) (.cons (.pk 1) .nil)) .nil))) (.and (.op (.isi [.int, .str]) (.cons (.pk 0) .nil)) (.op .eq (.cons (.pk 0) (.cons (.pk 1) .nil)))))) .nil)))⟩
def fn__law_odd : Fn := ⟨1, 3, [true], (.cons (.asg (.nm 1) (.cst .non)) (.cons (.fr (.nm 2) .rng1 (.cons (.op .add (.cons (.cst (.int 1)) (.cons (.call 14 (.cons (.pk 0) (.cons (.cst (.int 25)) .nil))) .nil))) .nil) (.cons (.asg (.nm 1) (.op .idx (.cons (.op .lst (.cons (.op .tup (.cons (.var 1) .nil)) (.cons (.op .lst (.cons (.var 1) .nil)) (.cons (.op (.dsp1 (.inl 0)) (.cons (.var 1) .nil)) .nil)))) (.cons (.call 14 (.cons (.pk 0) (.cons (.cst (.int 3)) .nil))) .nil)))) .nil)) (.cons (.ret (.call 15 (.cons (.pk 0) (.cons (.op .lst (.cons (.cst .non) (.cons (.cst (.bl true)) (.cons (.cst (.bl false)) (.cons (.op .neg (.cons (.cst (.int 1)) .nil)) (.cons (.cst (.str "")) (.cons (.cst (.str "ann")) (.cons (.op .lst .nil) (.cons (.op .dnew .nil) (.cons (.op .tup (.cons (.op .tup .nil) .nil)) (.cons (.op .tup (.cons (.cst .non) .nil)) (.cons (.op .tup (.cons (.op .tup (.cons (.cst (.int 0)) (.cons (.cst (.int 0)) .nil))) .nil)) (.cons (.op .pow (.cons (.cst (.int 10)) (.cons (.cst (.int 11)) .nil))) (.cons (.var 1) .nil)))))))))))))) .nil)))) .nil)))⟩
def fn__law_common : Fn := ⟨2, 2, [false, false], (.cons (.whl (.op .gt (.cons (.pk 1) (.cons (.cst (.int 0)) .nil))) (.cons (.par [0, 1] (.cons (.var 1) (.cons (.op .mod (.cons (.op .int (.cons (.pk 0) .nil)) (.cons (.pk 1) .nil))) .nil))) .nil)) (.cons (.ret (.var 0)) .nil))⟩
def fn__law_bits : Fn := ⟨2, 5, [true, true], (.cons (.asg (.nm 2) (.op .lst (.cons (.cst (.bl true)) .nil))) (.cons (.fr (.nm 3) .rng2 (.cons (.cst (.int 1)) (.cons (.op .add (.cons (.pk 1) (.cons (.cst (.int 1)) .nil))) .nil)) (.cons (.ex (.mt .app 2 (.cons (.op .any (.cons (.lcp [4] (.nm 4) 0 (.cst (.bl true)) (.and (.op .le (.cons (.pk 4) (.cons (.pk 3) .nil))) (.op .idx (.cons (.pk 2) (.cons (.op .sub (.cons (.pk 3) (.cons (.pk 4) .nil))) .nil))))) .nil)) .nil))) .nil)) (.cons (.ret (.mv 2)) .nil)))⟩
def fn__law_needed : Fn := ⟨1, 3, [true], (.cons (.asg (.nm 1) (.op .lst .nil)) (.cons (.fr (.nm 2) .seq (.cons (.op .srt (.cons (.pk 0) .nil)) .nil) (.cons (.ife (.or (.op .eq (.cons (.op .len (.cons (.pk 1) .nil)) (.cons (.cst (.int 0)) .nil))) (.nt (.op .idx (.cons (.call 19 (.cons (.pk 1) (.cons (.pk 2) .nil))) (.cons (.pk 2) .nil))))) (.cons (.ex (.mt .app 1 (.cons (.var 2) .nil))) .nil) .nil) .nil)) (.cons (.ret (.op .tupOf (.cons (.pk 1) .nil))) .nil)))⟩
def fn__law_drawn : Fn := ⟨4, 7, [true, true, true, true], (.cons (.asg (.nm 4) (.lc [6] (.nm 6) .rng1 (.cons (.op .add (.cons (.cst (.int 2)) (.cons (.call 14 (.cons (.pk 0) (.cons (.op .sub (.cons (.pk 3) (.cons (.cst (.int 1)) .nil))) .nil))) .nil))) .nil) (.cst (.bl true)) (.op .add (.cons (.pk 1) (.cons (.call 14 (.cons (.pk 0) (.cons (.op .sub (.cons (.op .add (.cons (.pk 2) (.cons (.cst (.int 1)) .nil))) (.cons (.pk 1) .nil))) .nil))) .nil))))) (.cons (.asg (.nm 5) (.cst (.int 0))) (.cons (.frp (.nm 6) 4 (.cons (.asg (.nm 5) (.call 18 (.cons (.var 6) (.cons (.var 5) .nil)))) .nil)) (.cons (.ife (.op .gt (.cons (.pk 5) (.cons (.cst (.int 1)) .nil))) (.cons (.ex (.mt .app 4 (.cons (.op .add (.cons (.op .max (.cons (.pk 4) .nil)) (.cons (.cst (.int 1)) .nil))) .nil))) .nil) .nil) (.cons (.ret (.call 20 (.cons (.pk 4) .nil))) .nil)))))⟩
def fn__law_marks : Fn := ⟨2, 6, [true, true], (.cons (.asg (.nm 2) (.op .lst (.cons (.cst (.int 1)) .nil))) (.cons (.fr (.nm 3) .rng2 (.cons (.cst (.int 1)) (.cons (.op .add (.cons (.pk 1) (.cons (.cst (.int 1)) .nil))) .nil)) (.cons (.asg (.nm 4) (.lc [5] (.nm 5) .rng1 (.cons (.var 3) .nil) (.and (.op .idx (.cons (.pk 0) (.cons (.pk 5) .nil))) (.op .idx (.cons (.pk 0) (.cons (.op .sub (.cons (.pk 3) (.cons (.pk 5) .nil))) .nil)))) (.op .idx (.cons (.pk 2) (.cons (.pk 5) .nil))))) (.cons (.ex (.mt .app 2 (.cons (.ite (.op .idx (.cons (.pk 0) (.cons (.pk 3) .nil))) (.op .sub (.cons (.cst (.int 0)) (.cons (.op .sum (.cons (.pk 4) .nil)) .nil))) (.cst (.int 0))) .nil))) .nil))) (.cons (.ret (.mv 2)) .nil)))⟩
def fn__law_two : Fn := ⟨3, 7, [true, true, true], (.cons (.asg (.nm 3) (.op .rep (.cons (.op .lst (.cons (.cst (.int 0)) .nil)) (.cons (.op .add (.cons (.pk 2) (.cons (.cst (.int 1)) .nil))) .nil)))) (.cons (.fr (.tp [4, 5]) .seq (.cons (.op .tup (.cons (.op .tup (.cons (.cst (.int 0)) (.cons (.cst (.int 1)) .nil))) (.cons (.op .tup (.cons (.var 0) (.cons (.op .neg (.cons (.cst (.int 1)) .nil)) .nil))) (.cons (.op .tup (.cons (.var 1) (.cons (.op .neg (.cons (.cst (.int 1)) .nil)) .nil))) (.cons (.op .tup (.cons (.op .add (.cons (.pk 0) (.cons (.pk 1) .nil))) (.cons (.cst (.int 1)) .nil))) .nil))))) .nil) (.cons (.fr (.nm 6) .rng3 (.cons (.var 4) (.cons (.op .add (.cons (.pk 2) (.cons (.cst (.int 1)) .nil))) (.cons (.op .mul (.cons (.pk 0) (.cons (.pk 1) .nil))) .nil))) (.cons (.seti 3 (.op .add (.cons (.op .idx (.cons (.pk 3) (.cons (.pk 6) .nil))) (.cons (.pk 5) .nil))) (.var 6)) .nil)) .nil)) (.cons (.ret (.mv 3)) .nil)))⟩
def fn__law_word : Fn := ⟨1, 3, [true], (.cons (.tryw 0 1 [0, 1, 2, 3] (.cons (.asg (.nm 2) (.op .lst (.cons (.op (.isx [1]) (.cons (.pk 1) .nil)) (.cons (.op (.isx [2]) (.cons (.pk 1) .nil)) .nil)))) (.cons (.ife (.or (.op .ne (.cons (.mth .count (.pk 2) (.cst (.bl true))) (.cons (.cst (.int 1)) .nil))) (.nt (.op (.isx [0, 1, 2, 3]) (.cons (.pk 1) .nil)))) (.cons (.ret (.cst (.str "other"))) .nil) .nil) (.cons (.ret (.op .idx (.cons (.op .lst (.cons (.cst (.str "number")) (.cons (.cst (.str "system")) .nil))) (.cons (.mth .index (.pk 2) (.cst (.bl true))) .nil)))) .nil)))) (.cons (.ret (.cst (.str "told"))) .nil))⟩
def fn_law : Fn := ⟨1, 15, [true], (.cons (.asg (.nm 1) (.call 13 (.cons (.pk 0) .nil))) (.cons (.fr (.nm 2) .rng1 (.cons (.cst (.int 3)) .nil) (.cons (.par [3, 4] (.cons (.call 15 (.cons (.pk 1) (.cons (.op .add (.cons (.op .rep (.cons (.op .lst (.cons (.call 21 (.cons (.pk 1) (.cons (.cst (.int 2)) (.cons (.cst (.int 12)) (.cons (.cst (.int 4)) .nil))))) .nil)) (.cons (.cst (.int 5)) .nil))) (.cons (.op .lst (.cons (.op .tup (.cons (.cst (.int 1)) .nil)) .nil)) .nil))) .nil))) (.cons (.call 14 (.cons (.pk 1) (.cons (.cst (.int 101)) .nil))) .nil))) (.cons (.asg (.tp [5, 6]) (.op .tup (.cons (.mk 4 8 (.cons (.var 3) .nil)) (.cons (.call 19 (.cons (.pk 3) (.cons (.pk 4) .nil))) .nil)))) (.cons (.asg (.tp [7, 8]) (.op .tup (.cons (.call 22 (.cons (.pk 6) (.cons (.pk 4) .nil))) (.cons (.call 12 (.cons (.pk 5) (.cons (.pk 4) .nil))) .nil)))) (.cons (.ife (.nt (.call 16 (.cons (.op .lstOf (.cons (.pk 8) .nil)) (.cons (.pk 7) .nil)))) (.cons (.ret (.cst (.bl false))) .nil) .nil) (.cons (.fr (.nm 9) .rng2 (.cons (.cst (.int 1)) (.cons (.op .add (.cons (.pk 4) (.cons (.cst (.int 1)) .nil))) .nil)) (.cons (.ife (.op .ne (.cons (.op .sum (.cons (.lc [14] (.nm 14) .rng1 (.cons (.op .add (.cons (.pk 9) (.cons (.cst (.int 1)) .nil))) .nil) (.op .idx (.cons (.pk 6) (.cons (.op .sub (.cons (.pk 9) (.cons (.pk 14) .nil))) .nil))) (.op .idx (.cons (.pk 8) (.cons (.pk 14) .nil)))) .nil)) (.cons (.cst (.int 0)) .nil))) (.cons (.ret (.cst (.bl false))) .nil) .nil) .nil)) (.cons (.ife (.and (.op .eq (.cons (.op .len (.cons (.pk 3) .nil)) (.cons (.cst (.int 2)) .nil))) (.op .ne (.cons (.call 23 (.cons (.op .idx (.cons (.pk 3) (.cons (.cst (.int 0)) .nil))) (.cons (.op .idx (.cons (.pk 3) (.cons (.cst (.int 1)) .nil))) (.cons (.pk 4) .nil)))) (.cons (.pk 7) .nil)))) (.cons (.ret (.cst (.bl false))) .nil) .nil) (.cons (.asg (.nm 10) (.call 14 (.cons (.pk 1) (.cons (.op .add (.cons (.pk 4) (.cons (.cst (.int 1)) .nil))) .nil)))) (.cons (.ife (.op .ne (.cons (.op .lstOf (.cons (.call 12 (.cons (.pk 5) (.cons (.pk 10) .nil))) .nil)) (.cons (.slB (.pk 7) (.op .add (.cons (.pk 10) (.cons (.cst (.int 1)) .nil)))) .nil))) (.cons (.ret (.cst (.bl false))) .nil) .nil) (.cons (.asg (.nm 11) (.call 15 (.cons (.pk 1) (.cons (.op .lst (.cons (.op .neg (.cons (.cst (.int 1)) .nil)) (.cons (.cst (.int 2001)) (.cons (.cst (.bl true)) (.cons (.cst .non) (.cons (.cst (.str "3")) (.cons (.op .tup (.cons (.cst (.int 3)) .nil)) (.cons (.op .lst .nil) (.cons (.op .pow (.cons (.cst (.int 10)) (.cons (.cst (.int 30)) .nil))) .nil))))))))) .nil)))) (.cons (.asg (.nm 12) (.call 15 (.cons (.pk 1) (.cons (.op .lst (.cons (.cst .non) (.cons (.cst (.int 0)) (.cons (.cst (.str "system")) (.cons (.op .lst (.cons (.var 5) .nil)) (.cons (.op .dnew .nil) (.cons (.var 3) (.cons (.call 17 (.cons (.pk 1) .nil)) .nil)))))))) .nil)))) (.cons (.asg (.nm 13) (.op .lst (.cons (.lam 24 (.call 12 (.cons (.pk 12) (.cons (.pk 11) .nil)))) .nil))) (.cons (.ex (.mt .app 13 (.cons (.lam 24 (.call 12 (.cons (.pk 5) (.cons (.pk 11) .nil)))) .nil))) (.cons (.ife (.op .ne (.cons (.pk 13) (.cons (.op .lst (.cons (.cst (.str "system")) (.cons (.cst (.str "number")) .nil))) .nil))) (.cons (.ret (.cst (.bl false))) .nil) .nil) .nil)))))))))))))) (.cons (.ret (.cst (.bl true))) .nil)))⟩
def tb : List Fn := [fn_is_integer, fn_is_within, fn_common, fn_common_of, fn_BadCoins___init__, fn_round_up, fn_built, fn_check_coins, fn_System___init__, fn_System___eq__, fn_check_system, fn_pays_of, fn_order_mark, fn__law_hand, fn__law_draw, fn__law_any, fn__law_same, fn__law_odd, fn__law_common, fn__law_bits, fn__law_needed, fn__law_drawn, fn__law_marks, fn__law_two, fn__law_word, fn_law]
/-! ### the text -/
def top (i : Nat) : Stmt := PySem.Challenge.pw_paidornot_k53_whole_marks_of_order.main.body.getD i (.Pass ⟨0, 0, 0, 0⟩)
def inCls (s : Stmt) (j : Nat) : Stmt := match s with | .ClassDef (body := b) .. => b.getD j (.Pass ⟨0, 0, 0, 0⟩) | _ => .Pass ⟨0, 0, 0, 0⟩
abbrev t_is_integer : Stmt := top 1
abbrev t_is_within : Stmt := top 2
abbrev t_common : Stmt := top 3
abbrev t_common_of : Stmt := top 4
abbrev t_round_up : Stmt := top 14
abbrev t_built : Stmt := top 15
abbrev t_check_coins : Stmt := top 16
abbrev t_check_system : Stmt := top 18
abbrev t_pays_of : Stmt := top 19
abbrev t_order_mark : Stmt := top 22
abbrev t__law_hand : Stmt := top 24
abbrev t__law_draw : Stmt := top 25
abbrev t__law_any : Stmt := top 26
abbrev t__law_same : Stmt := top 27
abbrev t__law_odd : Stmt := top 28
abbrev t__law_common : Stmt := top 29
abbrev t__law_bits : Stmt := top 30
abbrev t__law_needed : Stmt := top 31
abbrev t__law_drawn : Stmt := top 32
abbrev t__law_marks : Stmt := top 33
abbrev t__law_two : Stmt := top 34
abbrev t__law_word : Stmt := top 35
abbrev t_law : Stmt := top 36
abbrev t_System___init__ : Stmt := inCls (top 17) 0
abbrev t_BadCoins : Stmt := inCls (top 9) 0
theorem sc_is_integer : FnScope ["thing"] ["thing"] (defScope t_is_integer) := ⟨rfl, rfl, rfl, by decide +kernel, rfl, by decide +kernel, by decide +kernel⟩
theorem sc_is_within : FnScope ["thing", "low", "high"] ["thing", "low", "high"] (defScope t_is_within) := ⟨rfl, rfl, rfl, by decide +kernel, rfl, by decide +kernel, by decide +kernel⟩
theorem sc_common : FnScope ["one", "other"] ["one", "other"] (defScope t_common) := ⟨rfl, rfl, rfl, by decide +kernel, rfl, by decide +kernel, by decide +kernel⟩
theorem sc_common_of : FnScope ["some", "found", "item"] ["some"] (defScope t_common_of) := ⟨rfl, rfl, rfl, by decide +kernel, rfl, by decide +kernel, by decide +kernel⟩
theorem sc_round_up : FnScope ["found", "coin", "step", "modulus", "rounds", "start", "here", "turn", "there"] ["found", "coin", "step", "modulus"] (defScope t_round_up) := ⟨rfl, rfl, rfl, by decide +kernel, rfl, by decide +kernel, by decide +kernel⟩
theorem sc_built : FnScope ["coins", "modulus", "needed_ones", "table", "coin", "held"] ["coins"] (defScope t_built) := ⟨rfl, rfl, rfl, by decide +kernel, rfl, by decide +kernel, by decide +kernel⟩
theorem sc_check_coins : FnScope ["coins", "at", "coin"] ["coins"] (defScope t_check_coins) := ⟨rfl, rfl, rfl, by decide +kernel, rfl, by decide +kernel, by decide +kernel⟩
theorem sc_check_system : FnScope ["system"] ["system"] (defScope t_check_system) := ⟨rfl, rfl, rfl, by decide +kernel, rfl, by decide +kernel, by decide +kernel⟩
theorem sc_pays_of : FnScope ["system", "number"] ["system", "number"] (defScope t_pays_of) := ⟨rfl, rfl, rfl, by decide +kernel, rfl, by decide +kernel, by decide +kernel⟩
theorem sc_order_mark : FnScope ["system", "most", "found", "number", "below", "less"] ["system", "most"] (defScope t_order_mark) := ⟨rfl, rfl, rfl, by decide +kernel, rfl, by decide +kernel, by decide +kernel⟩
theorem sc__law_hand : FnScope ["script", "cell"] ["script"] (defScope t__law_hand) := ⟨rfl, rfl, rfl, by decide +kernel, rfl, by decide +kernel, by decide +kernel⟩
theorem sc__law_draw : FnScope ["hand", "many", "cell", "digit", "number"] ["hand", "many"] (defScope t__law_draw) := ⟨rfl, rfl, rfl, by decide +kernel, rfl, by decide +kernel, by decide +kernel⟩
theorem sc__law_any : FnScope ["hand", "some"] ["hand", "some"] (defScope t__law_any) := ⟨rfl, rfl, rfl, by decide +kernel, rfl, by decide +kernel, by decide +kernel⟩
theorem sc__law_same : FnScope ["one", "due", "a", "b"] ["one", "due"] (defScope t__law_same) := ⟨rfl, rfl, rfl, by decide +kernel, rfl, by decide +kernel, by decide +kernel⟩
theorem sc__law_odd : FnScope ["hand", "deep", "turn"] ["hand"] (defScope t__law_odd) := ⟨rfl, rfl, rfl, by decide +kernel, rfl, by decide +kernel, by decide +kernel⟩
theorem sc__law_common : FnScope ["one", "other"] ["one", "other"] (defScope t__law_common) := ⟨rfl, rfl, rfl, by decide +kernel, rfl, by decide +kernel, by decide +kernel⟩
theorem sc__law_bits : FnScope ["coins", "bound_here", "found", "number", "coin"] ["coins", "bound_here"] (defScope t__law_bits) := ⟨rfl, rfl, rfl, by decide +kernel, rfl, by decide +kernel, by decide +kernel⟩
theorem sc__law_needed : FnScope ["coins", "found", "coin"] ["coins"] (defScope t__law_needed) := ⟨rfl, rfl, rfl, by decide +kernel, rfl, by decide +kernel, by decide +kernel⟩
theorem sc__law_drawn : FnScope ["hand", "least_here", "most_here", "many", "found", "divisor", "coin"] ["hand", "least_here", "most_here", "many"] (defScope t__law_drawn) := ⟨rfl, rfl, rfl, by decide +kernel, rfl, by decide +kernel, by decide +kernel⟩
theorem sc__law_marks : FnScope ["bits", "most_here", "found", "number", "some", "x"] ["bits", "most_here"] (defScope t__law_marks) := ⟨rfl, rfl, rfl, by decide +kernel, rfl, by decide +kernel, by decide +kernel⟩
theorem sc__law_two : FnScope ["one", "other", "most_here", "found", "begin", "sign", "at"] ["one", "other", "most_here"] (defScope t__law_two) := ⟨rfl, rfl, rfl, by decide +kernel, rfl, by decide +kernel, by decide +kernel⟩
theorem sc__law_word : FnScope ["call", "error", "flags"] ["call"] (defScope t__law_word) := ⟨rfl, rfl, rfl, by decide +kernel, rfl, by decide +kernel, by decide +kernel⟩
theorem sc_law : FnScope ["script", "hand", "turn", "coins", "most_here", "system", "bits", "due", "told", "number", "less_here", "bad", "odd", "words", "x"] ["script"] (defScope t_law) := ⟨rfl, rfl, rfl, by decide +kernel, rfl, by decide +kernel, by decide +kernel⟩
theorem sc_System___init__ : FnScope ["self", "coins", "needed_ones", "table"] ["self", "coins"] (defScope t_System___init__) := ⟨rfl, rfl, rfl, by decide +kernel, rfl, by decide +kernel, by decide +kernel⟩
theorem sc_BadCoins : FnScope ["self", "at"] ["self", "at"] (defScope t_BadCoins) := ⟨rfl, rfl, rfl, by decide +kernel, rfl, by decide +kernel, by decide +kernel⟩
/-! ### what is leant on -/
def xe : List Str := ["CoinError", "BadNumber", "NoSystem", "BadCoins"]
def xi : List Str := ["System"]
def xs : List Str := xe ++ xi
abbrev tix_law : Nat := 0
def tf : List He.Defn := [("law", none)]
def tT (K : PySem.W.Frag) : List (Addr × Str) := [((He.cT K ("law", none)).2, "law.<locals>.<lambda>")]
def fvs : List (Nat × (Str × Option Str)) := []
abbrev Yw (K : PySem.W.Frag) : Wd := { K := K, ca := caOf K xs, T := tT K, ok := fun c => xe.length ≤ c ∧ c < xs.length, th := fun _ => True, ex := fun _ _ _ => False, xk := fun c => c < xe.length, fv := fvOf K fvs }
variable {WF : Nat}
structure Fs (K : PySem.W.Frag) (mg : Str → Option Value) : Prop where
  d_is_integer : FunD K "is_integer" "is_integer" (defArgs t_is_integer) (defBody t_is_integer) (defScope t_is_integer) [] [] (He.fAd K ("is_integer", none)) (fdOf K ("is_integer", none))
  d_is_within : FunD K "is_within" "is_within" (defArgs t_is_within) (defBody t_is_within) (defScope t_is_within) [] [] (He.fAd K ("is_within", none)) (fdOf K ("is_within", none))
  d_common : FunD K "common" "common" (defArgs t_common) (defBody t_common) (defScope t_common) [] [] (He.fAd K ("common", none)) (fdOf K ("common", none))
  d_common_of : FunD K "common_of" "common_of" (defArgs t_common_of) (defBody t_common_of) (defScope t_common_of) [] [] (He.fAd K ("common_of", none)) (fdOf K ("common_of", none))
  d_round_up : FunD K "round_up" "round_up" (defArgs t_round_up) (defBody t_round_up) (defScope t_round_up) [] [] (He.fAd K ("round_up", none)) (fdOf K ("round_up", none))
  d_built : FunD K "built" "built" (defArgs t_built) (defBody t_built) (defScope t_built) [] [] (He.fAd K ("built", none)) (fdOf K ("built", none))
  d_check_coins : FunD K "check_coins" "check_coins" (defArgs t_check_coins) (defBody t_check_coins) (defScope t_check_coins) [] [] (He.fAd K ("check_coins", none)) (fdOf K ("check_coins", none))
  d_check_system : FunD K "check_system" "check_system" (defArgs t_check_system) (defBody t_check_system) (defScope t_check_system) [] [] (He.fAd K ("check_system", none)) (fdOf K ("check_system", none))
  d_pays_of : FunD K "pays_of" "pays_of" (defArgs t_pays_of) (defBody t_pays_of) (defScope t_pays_of) [] [] (He.fAd K ("pays_of", none)) (fdOf K ("pays_of", none))
  d_order_mark : FunD K "order_mark" "order_mark" (defArgs t_order_mark) (defBody t_order_mark) (defScope t_order_mark) [] [] (He.fAd K ("order_mark", none)) (fdOf K ("order_mark", none))
  d__law_hand : FunD K "_law_hand" "_law_hand" (defArgs t__law_hand) (defBody t__law_hand) (defScope t__law_hand) [] [] (He.fAd K ("_law_hand", none)) (fdOf K ("_law_hand", none))
  d__law_draw : FunD K "_law_draw" "_law_draw" (defArgs t__law_draw) (defBody t__law_draw) (defScope t__law_draw) [] [] (He.fAd K ("_law_draw", none)) (fdOf K ("_law_draw", none))
  d__law_any : FunD K "_law_any" "_law_any" (defArgs t__law_any) (defBody t__law_any) (defScope t__law_any) [] [] (He.fAd K ("_law_any", none)) (fdOf K ("_law_any", none))
  d__law_same : FunD K "_law_same" "_law_same" (defArgs t__law_same) (defBody t__law_same) (defScope t__law_same) [] [] (He.fAd K ("_law_same", none)) (fdOf K ("_law_same", none))
  d__law_odd : FunD K "_law_odd" "_law_odd" (defArgs t__law_odd) (defBody t__law_odd) (defScope t__law_odd) [] [] (He.fAd K ("_law_odd", none)) (fdOf K ("_law_odd", none))
  d__law_common : FunD K "_law_common" "_law_common" (defArgs t__law_common) (defBody t__law_common) (defScope t__law_common) [] [] (He.fAd K ("_law_common", none)) (fdOf K ("_law_common", none))
  d__law_bits : FunD K "_law_bits" "_law_bits" (defArgs t__law_bits) (defBody t__law_bits) (defScope t__law_bits) [] [] (He.fAd K ("_law_bits", none)) (fdOf K ("_law_bits", none))
  d__law_needed : FunD K "_law_needed" "_law_needed" (defArgs t__law_needed) (defBody t__law_needed) (defScope t__law_needed) [] [] (He.fAd K ("_law_needed", none)) (fdOf K ("_law_needed", none))
  d__law_drawn : FunD K "_law_drawn" "_law_drawn" (defArgs t__law_drawn) (defBody t__law_drawn) (defScope t__law_drawn) [] [] (He.fAd K ("_law_drawn", none)) (fdOf K ("_law_drawn", none))
  d__law_marks : FunD K "_law_marks" "_law_marks" (defArgs t__law_marks) (defBody t__law_marks) (defScope t__law_marks) [] [] (He.fAd K ("_law_marks", none)) (fdOf K ("_law_marks", none))
  d__law_two : FunD K "_law_two" "_law_two" (defArgs t__law_two) (defBody t__law_two) (defScope t__law_two) [] [] (He.fAd K ("_law_two", none)) (fdOf K ("_law_two", none))
  d__law_word : FunD K "_law_word" "_law_word" (defArgs t__law_word) (defBody t__law_word) (defScope t__law_word) [] [] (He.fAd K ("_law_word", none)) (fdOf K ("_law_word", none))
  d_law : FunD K "law" "law" (defArgs t_law) (defBody t_law) (defScope t_law) [] [] (He.fAd K ("law", none)) (fdOf K ("law", none))
  g_is_integer : DefOk K mg "is_integer" ("is_integer", none) ["thing"]
  g_is_within : DefOk K mg "is_within" ("is_within", none) ["thing", "low", "high"]
  g_common : DefOk K mg "common" ("common", none) ["one", "other"]
  g_common_of : DefOk K mg "common_of" ("common_of", none) ["some"]
  g_round_up : DefOk K mg "round_up" ("round_up", none) ["found", "coin", "step", "modulus"]
  g_built : DefOk K mg "built" ("built", none) ["coins"]
  g_check_coins : DefOk K mg "check_coins" ("check_coins", none) ["coins"]
  g_check_system : DefOk K mg "check_system" ("check_system", none) ["system"]
  g_pays_of : DefOk K mg "pays_of" ("pays_of", none) ["system", "number"]
  g_order_mark : DefOk K mg "order_mark" ("order_mark", none) ["system", "most"]
  g__law_hand : DefOk K mg "_law_hand" ("_law_hand", none) ["script"]
  g__law_draw : DefOk K mg "_law_draw" ("_law_draw", none) ["hand", "many"]
  g__law_any : DefOk K mg "_law_any" ("_law_any", none) ["hand", "some"]
  g__law_same : DefOk K mg "_law_same" ("_law_same", none) ["one", "due"]
  g__law_odd : DefOk K mg "_law_odd" ("_law_odd", none) ["hand"]
  g__law_common : DefOk K mg "_law_common" ("_law_common", none) ["one", "other"]
  g__law_bits : DefOk K mg "_law_bits" ("_law_bits", none) ["coins", "bound_here"]
  g__law_needed : DefOk K mg "_law_needed" ("_law_needed", none) ["coins"]
  g__law_drawn : DefOk K mg "_law_drawn" ("_law_drawn", none) ["hand", "least_here", "most_here", "many"]
  g__law_marks : DefOk K mg "_law_marks" ("_law_marks", none) ["bits", "most_here"]
  g__law_two : DefOk K mg "_law_two" ("_law_two", none) ["one", "other", "most_here"]
  g__law_word : DefOk K mg "_law_word" ("_law_word", none) ["call"]
  g_law : DefOk K mg "law" ("law", none) ["script"]
  d_BadCoins : FunD K "__init__" "BadCoins.__init__" (defArgs t_BadCoins) (defBody t_BadCoins) (defScope t_BadCoins) [] [] (He.fAd K ("BadCoins", some "__init__")) (fdOf K ("BadCoins", some "__init__"))
  c_CoinError : mg "CoinError" = some (.ref (He.ga K "CoinError"))
  c_BadNumber : mg "BadNumber" = some (.ref (He.ga K "BadNumber"))
  c_NoSystem : mg "NoSystem" = some (.ref (He.ga K "NoSystem"))
  c_BadCoins : mg "BadCoins" = some (.ref (He.ga K "BadCoins"))
  c_System : mg "System" = some (.ref (He.ga K "System"))
  v_isinstance : mg "isinstance" = none
  v_int : mg "int" = none
  v_bool : mg "bool" = none
  v_abs : mg "abs" = none
  v_range : mg "range" = none
  v_tuple : mg "tuple" = none
  v_len : mg "len" = none
  v_enumerate : mg "enumerate" = none
  v_min : mg "min" = none
  v_sorted : mg "sorted" = none
  v_list : mg "list" = none
  v_sum : mg "sum" = none
  v_zip : mg "zip" = none
  v_all : mg "all" = none
  v_str : mg "str" = none
  v_any : mg "any" = none
  v_max : mg "max" = none
  v_ValueError : mg "ValueError" = none
  i_MOST_COINS : ∃ t, mg "MOST_COINS" = some (.int 700 t)
  i_MOST_COIN : ∃ t, mg "MOST_COIN" = some (.int 1000000 t)
  i_MOST_LEAST : ∃ t, mg "MOST_LEAST" = some (.int 2000 t)
  i_MOST_GREAT : ∃ t, mg "MOST_GREAT" = some (.int 2000 t)
  d_System___init__ : FunD K "__init__" "System.__init__" (defArgs t_System___init__) (defBody t_System___init__) (defScope t_System___init__) [] [] (He.fAd K ("System", some "__init__")) (fdOf K ("System", some "__init__"))
  b_System___init__ : Binds K (fdOf K ("System", some "__init__")) ["self", "coins"] []
  M_System : Mk K (He.ga K "System") (He.fAd K ("System", some "__init__"))
  ic : icB K xs xe.length = true
  q_coins : noinB K xs xe.length "coins" = true
  q_needed_coins : noinB K xs xe.length "needed_coins" = true
  q_rests : noinB K xs xe.length "rests" = true
  xc : XcC (Yw K) K
  x_BadNumber : isB K xe (.ref (He.ga K "BadNumber"), [1]) = true
  x_NoSystem : isB K xe (.ref (He.ga K "NoSystem"), [2]) = true
  x_ValueError : isB K xe (.type "ValueError", [0, 1, 2, 3]) = true
  m_CoinError : exmB K xe (He.ga K "CoinError", [0, 1, 2, 3]) = true
  e_NoSystem : (He.Fa.exc "NoSystem").ok K = true
  e_BadNumber : (He.Fa.exc "BadNumber").ok K = true
  o_BadCoins : oexB K (He.ga K "BadCoins") = true ∧ PySem.W.findIn K (.ref (He.ga K "BadCoins")) "__init__" = some (some (.ref (He.fAd K ("BadCoins", some "__init__")))) ∧ PySem.W.typeIn K (.ref (He.fAd K ("BadCoins", some "__init__"))) = some (.type "function") ∧ PySem.W.findIn K (.ref (He.ga K "BadCoins")) "at" = some none
  nd : ((tT K).map (·.1)).Nodup
theorem isC_ok {K : PySem.W.Frag} {mg : Str → Option Value} (F : Fs K mg) : IsC (Yw K) K := icB_ok F.ic (fun _ h => h) rfl
theorem hcl_ok {K : PySem.W.Frag} {mg : Str → Option Value} {f : Str} (F : Fs K mg) (q : noinB K xs xe.length f = true) : ∀ c, (Yw K).ok c → Cls K ((Yw K).ca c) ∧ NoAttr K ((Yw K).ca c) f := fun c hc => ⟨((isC_ok F).ins c hc).1, noinB_ok q hc.1 hc.2⟩
theorem okc_System {K : PySem.W.Frag} : (Yw K).ok 4 := ⟨by decide, by decide⟩
theorem exc0_NoSystem {X : Cx} (F : Fs X.K X.mg) : Exc0 X (Yw X.K) "NoSystem" 2 := by
  obtain ⟨h1, h2, h3, h4⟩ := He.exc_ok F.e_NoSystem
  exact ⟨F.c_NoSystem, h1, h2, h3, h4, show _ < xe.length by decide⟩
theorem exc0_BadNumber {X : Cx} (F : Fs X.K X.mg) : Exc0 X (Yw X.K) "BadNumber" 1 := by
  obtain ⟨h1, h2, h3, h4⟩ := He.exc_ok F.e_BadNumber
  exact ⟨F.c_BadNumber, h1, h2, h3, h4, show _ < xe.length by decide⟩
theorem exc1_BadCoins {X : Cx} (F : Fs X.K X.mg) : Exc1 X (Yw X.K) "BadCoins" 3 "at" 1 (He.fAd X.K ("BadCoins", some "__init__")) (fdOf X.K ("BadCoins", some "__init__")) ["self", "at"] := by
  obtain ⟨h1, h2, h3, h4⟩ := F.o_BadCoins
  exact ⟨F.c_BadCoins, oexB_ok h1, h2, h3, init_ok F.d_BadCoins sc_BadCoins (oexB_ok h1) h4 (.inl rfl) (.inl rfl), F.d_BadCoins.bindsN (fun _ _ _ _ _ _ us hl => match us, hl with | [_, _], _ => rfl), show _ < xe.length by decide⟩
/-! ### the defs that try -/
theorem gives__law_word (X : Cx) (F : Fs X.K X.mg) (hr0 : Room 3 X.A) (n : Nat) (g : Addr) (cdg : Value) (q : Str) : LamX.GivesTo X ["call", "error", "flags"] "_law_word" (defScope t__law_word) g cdg (defBody t__law_word) "call" q (TTw (Yw X.K) (callD tb WF (n + 1) 24)) := by
  have sc := sc__law_word
  have hu : X.A.units + 3 + 69 < cLine := by have := hr0.un; omega
  rw [callD_succ (fn := fn__law_word) rfl]
  exact word_gives0 (X := X) (Y := Yw X.K) (U := ⟨WF, callD tb WF n, mdOf tb⟩) (hx := fun _ _ _ h => h) (hth := fun _ => trivial) rfl (by decide) sc.nd rfl rfl rfl F.c_CoinError (fun c hc => exmB_okA (ys := xi) F.m_CoinError hc) (fun s H a oe cls d pn hz hf hcl => (ss_cons (st_asg (s_lst (a_cons (x_e (s_isx (Y := Yw X.K) (cv := .ref (He.ga X.K "BadNumber")) F.xc hz hf F.v_isinstance (fun _ r => r) (fun c hc => isB_okA (ys := xi) F.x_BadNumber hc) (pe_glob rfl F.c_BadNumber rfl) x_pk)) (a_cons (x_e (s_isx (Y := Yw X.K) (cv := .ref (He.ga X.K "NoSystem")) F.xc hz hf F.v_isinstance (fun _ r => r) (fun c hc => isB_okA (ys := xi) F.x_NoSystem hc) (pe_glob rfl F.c_NoSystem rfl) x_pk)) a_nil))) (g_nm sc.nd nmi)) (ss_cons (st_if (t_pw (w_or (c_t (k_ne rfl (u64 hu)) (x_e (s_count rfl (u65 hu) x_pk (x_e s_bl))) (x_e s_int)) (w_or1 (t_not (t_of (s_isx (Y := Yw X.K) (cv := .ty "ValueError") F.xc hz hf F.v_isinstance (fun _ r => r) (fun c hc => isB_okA (ys := xi) F.x_ValueError hc) (pe_bltn rfl F.v_ValueError (by decide +kernel) rfl) x_pk)))))) (ss_cons (st_ret s_str) ss_nil) ss_nil) (ss_cons (st_ret (s_idx rfl (x_e (s_lst (a_cons (x_e s_str) (a_cons (x_e s_str) a_nil)))) (x_e (s_index rfl (u65 hu) x_pk (x_e s_bl))))) ss_nil)))) (fun s H => (ss_cons (st_ret s_str) ss_nil))
/-! ### each def keeps its promise -/
structure All (P : Program) (w : World) (K : PySem.W.Frag) (mg : Str → Option Value) (base : Heap) (WF n : Nat) : Prop where
  f_is_integer : FnOk P w K mg base (L2.CX P w) (4 * n + 1) (He.fAd K ("is_integer", none)) (fdOf K ("is_integer", none)) ["thing"] (spF (Yw K) (callD tb WF n 0))
  f_is_within : FnOk P w K mg base (L2.CX P w) (4 * n + 1) (He.fAd K ("is_within", none)) (fdOf K ("is_within", none)) ["thing", "low", "high"] (spF (Yw K) (callD tb WF n 1))
  f_common : FnOk P w K mg base (L2.CX P w) (4 * n + 1) (He.fAd K ("common", none)) (fdOf K ("common", none)) ["one", "other"] (spF (Yw K) (callD tb WF n 2))
  f_common_of : FnOk P w K mg base (L2.CX P w) (4 * n + 1) (He.fAd K ("common_of", none)) (fdOf K ("common_of", none)) ["some"] (spF (Yw K) (callD tb WF n 3))
  f_round_up : FnOk P w K mg base (L2.CX P w) (4 * n + 1) (He.fAd K ("round_up", none)) (fdOf K ("round_up", none)) ["found", "coin", "step", "modulus"] (spF (Yw K) (callD tb WF n 5))
  f_built : FnOk P w K mg base (L2.CX P w) (4 * n + 1) (He.fAd K ("built", none)) (fdOf K ("built", none)) ["coins"] (spF (Yw K) (callD tb WF n 6))
  f_check_coins : FnOk P w K mg base (L2.CX P w) (4 * n + 1) (He.fAd K ("check_coins", none)) (fdOf K ("check_coins", none)) ["coins"] (spF (Yw K) (callD tb WF n 7))
  f_check_system : FnOk P w K mg base (L2.CX P w) (4 * n + 1) (He.fAd K ("check_system", none)) (fdOf K ("check_system", none)) ["system"] (spF (Yw K) (callD tb WF n 10))
  f_pays_of : FnOk P w K mg base (L2.CX P w) (4 * n + 1) (He.fAd K ("pays_of", none)) (fdOf K ("pays_of", none)) ["system", "number"] (spF (Yw K) (callD tb WF n 11))
  f_order_mark : FnOk P w K mg base (L2.CX P w) (4 * n + 1) (He.fAd K ("order_mark", none)) (fdOf K ("order_mark", none)) ["system", "most"] (spF (Yw K) (callD tb WF n 12))
  f__law_hand : FnOk P w K mg base (L2.CX P w) (4 * n + 1) (He.fAd K ("_law_hand", none)) (fdOf K ("_law_hand", none)) ["script"] (spF (Yw K) (callD tb WF n 13))
  f__law_draw : FnOk P w K mg base (L2.CX P w) (4 * n + 1) (He.fAd K ("_law_draw", none)) (fdOf K ("_law_draw", none)) ["hand", "many"] (spF (Yw K) (callD tb WF n 14))
  f__law_any : FnOk P w K mg base (L2.CX P w) (4 * n + 1) (He.fAd K ("_law_any", none)) (fdOf K ("_law_any", none)) ["hand", "some"] (spF (Yw K) (callD tb WF n 15))
  f__law_same : FnOk P w K mg base (L2.CX P w) (4 * n + 1) (He.fAd K ("_law_same", none)) (fdOf K ("_law_same", none)) ["one", "due"] (spF (Yw K) (callD tb WF n 16))
  f__law_odd : FnOk P w K mg base (L2.CX P w) (4 * n + 1) (He.fAd K ("_law_odd", none)) (fdOf K ("_law_odd", none)) ["hand"] (spF (Yw K) (callD tb WF n 17))
  f__law_common : FnOk P w K mg base (L2.CX P w) (4 * n + 1) (He.fAd K ("_law_common", none)) (fdOf K ("_law_common", none)) ["one", "other"] (spF (Yw K) (callD tb WF n 18))
  f__law_bits : FnOk P w K mg base (L2.CX P w) (4 * n + 1) (He.fAd K ("_law_bits", none)) (fdOf K ("_law_bits", none)) ["coins", "bound_here"] (spF (Yw K) (callD tb WF n 19))
  f__law_needed : FnOk P w K mg base (L2.CX P w) (4 * n + 1) (He.fAd K ("_law_needed", none)) (fdOf K ("_law_needed", none)) ["coins"] (spF (Yw K) (callD tb WF n 20))
  f__law_drawn : FnOk P w K mg base (L2.CX P w) (4 * n + 1) (He.fAd K ("_law_drawn", none)) (fdOf K ("_law_drawn", none)) ["hand", "least_here", "most_here", "many"] (spF (Yw K) (callD tb WF n 21))
  f__law_marks : FnOk P w K mg base (L2.CX P w) (4 * n + 1) (He.fAd K ("_law_marks", none)) (fdOf K ("_law_marks", none)) ["bits", "most_here"] (spF (Yw K) (callD tb WF n 22))
  f__law_two : FnOk P w K mg base (L2.CX P w) (4 * n + 1) (He.fAd K ("_law_two", none)) (fdOf K ("_law_two", none)) ["one", "other", "most_here"] (spF (Yw K) (callD tb WF n 23))
  f_law : FnOk P w K mg base (L2.CX P w) (4 * n + 1) (He.fAd K ("law", none)) (fdOf K ("law", none)) ["script"] (spF (Yw K) (callD tb WF n 25))
  f_System___init__ : FnOk P w K mg base (L2.CX P w) (4 * n + 1) (He.fAd K ("System", some "__init__")) (fdOf K ("System", some "__init__")) ["self", "coins"] (spF (Yw K) (callD tb WF n 8))
section
variable {P : Program} {w : World} {K : PySem.W.Frag} {mg : Str → Option Value} {base : Heap} {n : Nat}
theorem all0 (F : Fs K mg) : All P w K mg base WF 0 := ⟨bad_ok F.d_is_integer sc_is_integer, bad_ok F.d_is_within sc_is_within, bad_ok F.d_common sc_common, bad_ok F.d_common_of sc_common_of, bad_ok F.d_round_up sc_round_up, bad_ok F.d_built sc_built, bad_ok F.d_check_coins sc_check_coins, bad_ok F.d_check_system sc_check_system, bad_ok F.d_pays_of sc_pays_of, bad_ok F.d_order_mark sc_order_mark, bad_ok F.d__law_hand sc__law_hand, bad_ok F.d__law_draw sc__law_draw, bad_ok F.d__law_any sc__law_any, bad_ok F.d__law_same sc__law_same, bad_ok F.d__law_odd sc__law_odd, bad_ok F.d__law_common sc__law_common, bad_ok F.d__law_bits sc__law_bits, bad_ok F.d__law_needed sc__law_needed, bad_ok F.d__law_drawn sc__law_drawn, bad_ok F.d__law_marks sc__law_marks, bad_ok F.d__law_two sc__law_two, bad_ok F.d_law sc_law, bad_ok F.d_System___init__ sc_System___init__⟩
theorem ok_is_integer (F : Fs K mg) (TB : ∀ (i : Nat) {p : He.Defn}, tf[i]? = some p → LamX.TabB base mg (He.cT K p).1 (He.cT K p).2) (A : All P w K mg base WF n) : FnOk P w K mg base (L2.CX P w) (4 * (n + 1) + 1) (He.fAd K ("is_integer", none)) (fdOf K ("is_integer", none)) ["thing"] (spF (Yw K) (callD tb WF (n + 1) 0)) := by
  have sc := sc_is_integer
  rw [callD_succ (fn := fn_is_integer) rfl]
  refine fn_ok (k := 4 * (n + 1)) (U := ⟨WF, callD tb WF n, mdOf tb⟩) F.d_is_integer sc rfl rfl fun cdv A0 outer s0 H0 E hr3 hcd => ?_
  have hr1 : Room (4 * n + 1) _ := hr3.mono (by omega)
  exact (ss_cons (st_ret (s_and (s_isi rfl (isC_ok F) F.v_isinstance (.bi (by intro c z; cases z)) (.ty "int") (pe_bltn rfl F.v_int (by decide +kernel) rfl) x_pk) (s_and1 (s_not (s_isi rfl (isC_ok F) F.v_isinstance (.bi (by intro c z; cases z)) (.ty "bool") (pe_bltn rfl F.v_bool (by decide +kernel) rfl) x_pk))))) ss_nil)
theorem ok_is_within (F : Fs K mg) (TB : ∀ (i : Nat) {p : He.Defn}, tf[i]? = some p → LamX.TabB base mg (He.cT K p).1 (He.cT K p).2) (A : All P w K mg base WF n) : FnOk P w K mg base (L2.CX P w) (4 * (n + 1) + 1) (He.fAd K ("is_within", none)) (fdOf K ("is_within", none)) ["thing", "low", "high"] (spF (Yw K) (callD tb WF (n + 1) 1)) := by
  have sc := sc_is_within
  rw [callD_succ (fn := fn_is_within) rfl]
  refine fn_ok (k := 4 * (n + 1)) (U := ⟨WF, callD tb WF n, mdOf tb⟩) F.d_is_within sc rfl rfl fun cdv A0 outer s0 H0 E hr3 hcd => ?_
  have hr1 : Room (4 * n + 1) _ := hr3.mono (by omega)
  exact (ss_cons (st_ret (s_and (s_callD A.f_is_integer F.g_is_integer hr1 (takes_of rfl rfl rfl rfl) (a_cons x_pk a_nil)) (s_and1 (c_chn k_le k_le x_pk x_pk x_pk)))) ss_nil)
theorem ok_common (F : Fs K mg) (TB : ∀ (i : Nat) {p : He.Defn}, tf[i]? = some p → LamX.TabB base mg (He.cT K p).1 (He.cT K p).2) (A : All P w K mg base WF n) : FnOk P w K mg base (L2.CX P w) (4 * (n + 1) + 1) (He.fAd K ("common", none)) (fdOf K ("common", none)) ["one", "other"] (spF (Yw K) (callD tb WF (n + 1) 2)) := by
  have sc := sc_common
  rw [callD_succ (fn := fn_common) rfl]
  refine fn_ok (k := 4 * (n + 1)) (U := ⟨WF, callD tb WF n, mdOf tb⟩) F.d_common sc rfl rfl fun cdv A0 outer s0 H0 E hr3 hcd => ?_
  have hr1 : Room (4 * n + 1) _ := hr3.mono (by omega)
  exact (ss_cons (st_par2 rfl sc.nd (p_cons (f_abs F.v_abs x_pk) (p_cons (f_abs F.v_abs x_pk) p_nil))) (ss_cons (st_while (passes_of rfl) (c_t k_gt x_pk (x_e s_int)) (ss_cons (st_par2 rfl sc.nd (p_cons s_var (p_cons (b_mod x_pk x_pk) p_nil))) ss_nil)) (ss_cons (st_ret s_var) ss_nil)))
theorem ok_common_of (F : Fs K mg) (TB : ∀ (i : Nat) {p : He.Defn}, tf[i]? = some p → LamX.TabB base mg (He.cT K p).1 (He.cT K p).2) (A : All P w K mg base WF n) : FnOk P w K mg base (L2.CX P w) (4 * (n + 1) + 1) (He.fAd K ("common_of", none)) (fdOf K ("common_of", none)) ["some"] (spF (Yw K) (callD tb WF (n + 1) 3)) := by
  have sc := sc_common_of
  rw [callD_succ (fn := fn_common_of) rfl]
  refine fn_ok (k := 4 * (n + 1)) (U := ⟨WF, callD tb WF n, mdOf tb⟩) F.d_common_of sc rfl rfl fun cdv A0 outer s0 H0 E hr3 hcd => ?_
  have hr1 : Room (4 * n + 1) _ := hr3.mono (by omega)
  exact (ss_cons (st_asg s_int (g_nm sc.nd nmi)) (ss_cons (st_frp (passes_of rfl) rfl rfl (fun _ => trivial) x_pk (g_nm sc.nd nmi) (ss_cons (st_asg (s_callD A.f_common F.g_common hr1 (takes_of rfl rfl rfl rfl) (a_cons (x_e s_var) (a_cons (x_e s_var) a_nil))) (g_nm sc.nd nmi)) ss_nil)) (ss_cons (st_ret s_mv) ss_nil)))
theorem ok_round_up (F : Fs K mg) (TB : ∀ (i : Nat) {p : He.Defn}, tf[i]? = some p → LamX.TabB base mg (He.cT K p).1 (He.cT K p).2) (A : All P w K mg base WF n) : FnOk P w K mg base (L2.CX P w) (4 * (n + 1) + 1) (He.fAd K ("round_up", none)) (fdOf K ("round_up", none)) ["found", "coin", "step", "modulus"] (spF (Yw K) (callD tb WF (n + 1) 5)) := by
  have sc := sc_round_up
  rw [callD_succ (fn := fn_round_up) rfl]
  refine fn_ok (k := 4 * (n + 1)) (U := ⟨WF, callD tb WF n, mdOf tb⟩) F.d_round_up sc rfl rfl fun cdv A0 outer s0 H0 E hr3 hcd => ?_
  have hr1 : Room (4 * n + 1) _ := hr3.mono (by omega)
  exact (ss_cons (st_asg (s_callD A.f_common_of F.g_common_of hr1 (takes_of rfl rfl rfl rfl) (a_cons (x_e (s_lst (a_cons (x_e s_var) (a_cons (x_e s_var) a_nil)))) a_nil)) (g_nm sc.nd nmi)) (ss_cons (st_for (passes_of rfl) rfl (i_rng1 F.v_range (a_cons (x_e s_var) a_nil)) (g_nm sc.nd nmi) (ss_cons (st_asg s_var (g_nm sc.nd nmi)) (ss_cons (st_for (passes_of rfl) rfl (i_rng1 F.v_range (a_cons (x_e (b_mul (x_e s_int) (x_e (b_fdiv x_pk x_pk)))) a_nil)) (g_nm sc.nd nmi) (ss_cons (st_asg (b_mod (x_e (b_add rfl x_pk x_pk)) x_pk) (g_nm sc.nd nmi)) (ss_cons (st_if (t_pw (w_and (t_notN (x_e (s_idx rfl x_pk x_pk))) (w_and1 (t_pw (w_or (t_isN (x_e (s_idx rfl x_pk x_pk))) (w_or1 (c_t (k_lt rfl hr1.u69) (x_e (b_add rfl (x_e (s_idx rfl x_pk x_pk)) x_pk)) (x_e (s_idx rfl x_pk x_pk))))))))) (ss_cons (st_seti x_pk (x_e (b_add rfl (x_e (s_idx rfl x_pk x_pk)) x_pk)) (x_e s_var)) ss_nil) ss_nil) (ss_cons (st_asg s_var (g_nm sc.nd nmi)) ss_nil)))) ss_nil))) ss_nil))
theorem ok_built (F : Fs K mg) (TB : ∀ (i : Nat) {p : He.Defn}, tf[i]? = some p → LamX.TabB base mg (He.cT K p).1 (He.cT K p).2) (A : All P w K mg base WF n) : FnOk P w K mg base (L2.CX P w) (4 * (n + 1) + 1) (He.fAd K ("built", none)) (fdOf K ("built", none)) ["coins"] (spF (Yw K) (callD tb WF (n + 1) 6)) := by
  have sc := sc_built
  rw [callD_succ (fn := fn_built) rfl]
  refine fn_ok (k := 4 * (n + 1)) (U := ⟨WF, callD tb WF n, mdOf tb⟩) F.d_built sc rfl rfl fun cdv A0 outer s0 H0 E hr3 hcd => ?_
  have hr1 : Room (4 * n + 1) _ := hr3.mono (by omega)
  exact (ss_cons (st_asg (s_idx rfl x_pk (x_e s_int)) (g_nm sc.nd nmi)) (ss_cons (st_par2 rfl sc.nd (p_cons (s_lst (a_cons (x_e s_var) a_nil)) (p_cons (b_add rfl (x_e (s_lst (a_cons (x_e s_int) a_nil))) (x_e (b_rep rfl (x_e (s_lst (a_cons (x_e s_non) a_nil))) (x_e (b_sub x_pk (x_e s_int)))))) p_nil))) (ss_cons (st_for (passes_of rfl) rfl (i_seq rfl (x_e (s_slA rfl x_pk s_int))) (g_nm sc.nd nmi) (ss_cons (st_asg (s_idx rfl x_pk (x_e (b_mod x_pk x_pk))) (g_nm sc.nd nmi)) (ss_cons (st_if (t_pw (w_or (t_isN x_pk) (w_or1 (c_t k_gt x_pk x_pk)))) (ss_cons (st_ex (s_app x_pk (a_cons (x_e s_var) a_nil))) (ss_cons (st_ex (s_callD A.f_round_up F.g_round_up hr1 (takes_of rfl rfl rfl rfl) (a_cons x_pk (a_cons x_pk (a_cons (x_e (b_mod x_pk x_pk)) (a_cons x_pk a_nil)))))) ss_nil)) ss_nil) ss_nil))) (ss_cons (st_ret (s_tup (a_cons (x_e s_var) (a_cons (x_e s_var) a_nil)))) ss_nil))))
theorem ok_check_coins (F : Fs K mg) (TB : ∀ (i : Nat) {p : He.Defn}, tf[i]? = some p → LamX.TabB base mg (He.cT K p).1 (He.cT K p).2) (A : All P w K mg base WF n) : FnOk P w K mg base (L2.CX P w) (4 * (n + 1) + 1) (He.fAd K ("check_coins", none)) (fdOf K ("check_coins", none)) ["coins"] (spF (Yw K) (callD tb WF (n + 1) 7)) := by
  have sc := sc_check_coins
  rw [callD_succ (fn := fn_check_coins) rfl]
  refine fn_ok (k := 4 * (n + 1)) (U := ⟨WF, callD tb WF n, mdOf tb⟩) F.d_check_coins sc rfl rfl fun cdv A0 outer s0 H0 E hr3 hcd => ?_
  have hr1 : Room (4 * n + 1) _ := hr3.mono (by omega)
  exact (ss_cons (st_if (t_pw (w_or (t_not (t_of (s_isi rfl (isC_ok F) F.v_isinstance (.bi (by intro c z; cases z)) (.ty "tuple") (pe_bltn rfl F.v_tuple (by decide +kernel) rfl) x_pk))) (w_or1 (c_t (k_eq rfl (u64 hr1.u69)) (x_e (f_len rfl F.v_len x_pk)) (x_e s_int))))) (ss_cons (st_rse1 rfl (takes_of rfl rfl rfl rfl) (exc1_BadCoins F) (hr3.mono (by omega)) (x_e (u_neg (x_e s_int)))) ss_nil) ss_nil) (ss_cons (st_for (passes_of rfl) rfl (i_enm rfl F.v_enumerate (x_e s_var)) (g_tp rfl rfl sc.nd (.cons nmi (.cons nmi .nil))) (ss_cons (st_if (t_pw (w_or (c_t k_ge x_pk (x_e (s_glbI F.i_MOST_COINS))) (w_or (t_not (t_of (s_callD A.f_is_within F.g_is_within hr1 (takes_of rfl rfl rfl rfl) (a_cons x_pk (a_cons (x_e s_int) (a_cons (x_e (s_glbI F.i_MOST_COIN)) a_nil)))))) (w_or1 (c_t (k_inn rfl (u65 hr1.u69)) x_pk (x_e (s_slB rfl x_pk s_var))))))) (ss_cons (st_rse1 rfl (takes_of rfl rfl rfl rfl) (exc1_BadCoins F) (hr3.mono (by omega)) (x_e s_var)) ss_nil) ss_nil) ss_nil)) (ss_cons (st_if (t_pw (w_or (c_t k_gt (x_e (f_min rfl rfl F.v_min x_pk)) (x_e (s_glbI F.i_MOST_LEAST))) (w_or1 (c_t (k_ne rfl (u64 hr1.u69)) (x_e (s_callD A.f_common_of F.g_common_of hr1 (takes_of rfl rfl rfl rfl) (a_cons x_pk a_nil))) (x_e s_int))))) (ss_cons (st_rse1 rfl (takes_of rfl rfl rfl rfl) (exc1_BadCoins F) (hr3.mono (by omega)) (x_e (u_neg (x_e s_int)))) ss_nil) ss_nil) ss_nil)))
theorem ok_check_system (F : Fs K mg) (TB : ∀ (i : Nat) {p : He.Defn}, tf[i]? = some p → LamX.TabB base mg (He.cT K p).1 (He.cT K p).2) (A : All P w K mg base WF n) : FnOk P w K mg base (L2.CX P w) (4 * (n + 1) + 1) (He.fAd K ("check_system", none)) (fdOf K ("check_system", none)) ["system"] (spF (Yw K) (callD tb WF (n + 1) 10)) := by
  have sc := sc_check_system
  rw [callD_succ (fn := fn_check_system) rfl]
  refine fn_ok (k := 4 * (n + 1)) (U := ⟨WF, callD tb WF n, mdOf tb⟩) F.d_check_system sc rfl rfl fun cdv A0 outer s0 H0 E hr3 hcd => ?_
  have hr1 : Room (4 * n + 1) _ := hr3.mono (by omega)
  exact (ss_cons (st_if (t_not (t_of (s_isi rfl (isC_ok F) F.v_isinstance (.own 4 okc_System) (.own _) (pe_glob rfl F.c_System rfl) x_pk))) (ss_cons (st_rse0 rfl (takes_of rfl rfl rfl rfl) (exc0_NoSystem F)) ss_nil) ss_nil) ss_nil)
theorem ok_pays_of (F : Fs K mg) (TB : ∀ (i : Nat) {p : He.Defn}, tf[i]? = some p → LamX.TabB base mg (He.cT K p).1 (He.cT K p).2) (A : All P w K mg base WF n) : FnOk P w K mg base (L2.CX P w) (4 * (n + 1) + 1) (He.fAd K ("pays_of", none)) (fdOf K ("pays_of", none)) ["system", "number"] (spF (Yw K) (callD tb WF (n + 1) 11)) := by
  have sc := sc_pays_of
  rw [callD_succ (fn := fn_pays_of) rfl]
  refine fn_ok (k := 4 * (n + 1)) (U := ⟨WF, callD tb WF n, mdOf tb⟩) F.d_pays_of sc rfl rfl fun cdv A0 outer s0 H0 E hr3 hcd => ?_
  have hr1 : Room (4 * n + 1) _ := hr3.mono (by omega)
  exact (ss_cons (st_ret (s_and (c_e k_ge x_pk (x_e s_int)) (s_and1 (c_e k_le (x_e (s_idx rfl (x_e (s_fld (hcl_ok F F.q_rests) x_pk)) (x_e (b_mod x_pk (x_e (f_len rfl F.v_len (x_e (s_fld (hcl_ok F F.q_rests) x_pk)))))))) x_pk)))) ss_nil)
theorem ok_order_mark (F : Fs K mg) (TB : ∀ (i : Nat) {p : He.Defn}, tf[i]? = some p → LamX.TabB base mg (He.cT K p).1 (He.cT K p).2) (A : All P w K mg base WF n) : FnOk P w K mg base (L2.CX P w) (4 * (n + 1) + 1) (He.fAd K ("order_mark", none)) (fdOf K ("order_mark", none)) ["system", "most"] (spF (Yw K) (callD tb WF (n + 1) 12)) := by
  have sc := sc_order_mark
  rw [callD_succ (fn := fn_order_mark) rfl]
  refine fn_ok (k := 4 * (n + 1)) (U := ⟨WF, callD tb WF n, mdOf tb⟩) F.d_order_mark sc rfl rfl fun cdv A0 outer s0 H0 E hr3 hcd => ?_
  have hr1 : Room (4 * n + 1) _ := hr3.mono (by omega)
  exact (ss_cons (st_ex (s_callD A.f_check_system F.g_check_system hr1 (takes_of rfl rfl rfl rfl) (a_cons x_pk a_nil))) (ss_cons (st_if (t_not (t_of (s_callD A.f_is_within F.g_is_within hr1 (takes_of rfl rfl rfl rfl) (a_cons x_pk (a_cons (x_e s_int) (a_cons (x_e (s_glbI F.i_MOST_GREAT)) a_nil)))))) (ss_cons (st_rse0 rfl (takes_of rfl rfl rfl rfl) (exc0_BadNumber F)) ss_nil) ss_nil) (ss_cons (st_asg (s_lst a_nil) (g_nm sc.nd nmi)) (ss_cons (st_for (passes_of rfl) rfl (i_rng1 F.v_range (a_cons (x_e (b_add rfl x_pk (x_e s_int))) a_nil)) (g_nm sc.nd nmi) (ss_cons (st_if (t_not (t_of (s_callD A.f_pays_of F.g_pays_of hr1 (takes_of rfl rfl rfl rfl) (a_cons x_pk (a_cons x_pk a_nil))))) (ss_cons (st_ex (s_app x_pk (a_cons (x_e s_int) a_nil))) ss_nil) (ss_cons (st_asg (f_sum rfl rfl F.v_sum (x_e (s_lc1 (own := [("less", 5)]) rfl sc.nd (i_rng1 F.v_range (a_cons (x_e s_var) a_nil)) (blkOk_by (by rfl)) (fun _ _ _ _ _ => (g_nm sc.nd nmi)) (fun _ _ _ _ _ => (t_of (s_callD A.f_pays_of F.g_pays_of hr1 L2.takes0 (a_cons x_pk (a_cons (x_e (b_sub x_pk x_pk)) a_nil))))) (fun _ _ _ _ _ => (s_idx rfl x_pk x_pk))))) (g_nm sc.nd nmi)) (ss_cons (st_ex (s_app x_pk (a_cons (x_e (s_ite (c_t (k_eq rfl (u64 hr1.u69)) x_pk (x_e s_int)) s_int (u_neg x_pk))) a_nil))) ss_nil))) ss_nil)) (ss_cons (st_ret (f_tupOf rfl F.v_tuple x_pk)) ss_nil)))))
theorem ok__law_hand (F : Fs K mg) (TB : ∀ (i : Nat) {p : He.Defn}, tf[i]? = some p → LamX.TabB base mg (He.cT K p).1 (He.cT K p).2) (A : All P w K mg base WF n) : FnOk P w K mg base (L2.CX P w) (4 * (n + 1) + 1) (He.fAd K ("_law_hand", none)) (fdOf K ("_law_hand", none)) ["script"] (spF (Yw K) (callD tb WF (n + 1) 13)) := by
  have sc := sc__law_hand
  rw [callD_succ (fn := fn__law_hand) rfl]
  refine fn_ok (k := 4 * (n + 1)) (U := ⟨WF, callD tb WF n, mdOf tb⟩) F.d__law_hand sc rfl rfl fun cdv A0 outer s0 H0 E hr3 hcd => ?_
  have hr1 : Room (4 * n + 1) _ := hr3.mono (by omega)
  exact (ss_cons (st_ret (s_lst (a_cons (x_e (s_lc0 (own := [("cell", 1)]) rfl sc.nd (i_seq rfl (x_e (s_slB rfl x_pk s_int))) (blkOk_by (by rfl)) (fun _ _ _ _ _ => (g_nm sc.nd nmi)) (fun _ _ _ _ _ => (f_abs F.v_abs (x_e (f_int F.v_int x_pk)))))) (a_cons (x_e s_int) (a_cons (x_e s_int) (a_cons (x_e (b_add rfl (x_e s_int) (x_e (b_mul (x_e s_int) (x_e (f_len rfl F.v_len (x_e (s_slB rfl x_pk s_int)))))))) (a_cons (x_e s_int) a_nil))))))) ss_nil)
theorem ok__law_draw (F : Fs K mg) (TB : ∀ (i : Nat) {p : He.Defn}, tf[i]? = some p → LamX.TabB base mg (He.cT K p).1 (He.cT K p).2) (A : All P w K mg base WF n) : FnOk P w K mg base (L2.CX P w) (4 * (n + 1) + 1) (He.fAd K ("_law_draw", none)) (fdOf K ("_law_draw", none)) ["hand", "many"] (spF (Yw K) (callD tb WF (n + 1) 14)) := by
  have sc := sc__law_draw
  rw [callD_succ (fn := fn__law_draw) rfl]
  refine fn_ok (k := 4 * (n + 1)) (U := ⟨WF, callD tb WF n, mdOf tb⟩) F.d__law_draw sc rfl rfl fun cdv A0 outer s0 H0 E hr3 hcd => ?_
  have hr1 : Room (4 * n + 1) _ := hr3.mono (by omega)
  exact (ss_cons (st_if (t_pw (w_and (c_t (k_eq rfl (u64 hr1.u69)) (x_e (s_idx rfl x_pk (x_e s_int))) (x_e s_int)) (w_and1 (c_t (k_lt rfl hr1.u69) (x_e (s_idx rfl x_pk (x_e s_int))) (x_e (f_len rfl F.v_len (x_e (s_idx rfl x_pk (x_e s_int))))))))) (ss_cons (st_asg (s_idx rfl (x_e (s_idx rfl x_pk (x_e s_int))) (x_e (s_idx rfl x_pk (x_e s_int)))) (g_nm sc.nd nmi)) (ss_cons (st_seti x_pk (x_e (b_add rfl (x_e (s_idx rfl x_pk (x_e s_int))) (x_e s_int))) (x_e s_int)) (ss_cons (st_seti x_pk (x_e (b_mod (x_e (f_int F.v_int (x_e (b_add rfl (x_e (b_add rfl (x_e (b_mul (x_e (s_idx rfl x_pk (x_e s_int))) (x_e s_int))) (x_e (b_mul x_pk (x_e s_int))))) (x_e s_int))))) (x_e s_int))) (x_e s_int)) (ss_cons (st_if (c_t k_ge x_pk (x_e (b_pow (x_e s_int) (x_e s_int)))) (ss_cons (st_seti x_pk (x_e s_var) (x_e s_int)) ss_nil) ss_nil) ss_nil)))) ss_nil) (ss_cons (st_if (c_t k_gt (x_e (s_idx rfl x_pk (x_e s_int))) (x_e s_int)) (ss_cons (st_asg (b_mod (x_e (f_int F.v_int (x_e (s_idx rfl x_pk (x_e s_int))))) x_pk) (g_nm sc.nd nmi)) (ss_cons (st_seti x_pk (x_e (b_fdiv (x_e (s_idx rfl x_pk (x_e s_int))) x_pk)) (x_e s_int)) (ss_cons (st_ret s_mv) ss_nil))) ss_nil) (ss_cons (st_seti x_pk (x_e (b_add rfl (x_e (s_idx rfl x_pk (x_e s_int))) (x_e s_int))) (x_e s_int)) (ss_cons (st_asg (b_mod (x_e (f_int F.v_int (x_e (b_mul (x_e (f_int F.v_int (x_e (b_add rfl (x_e (s_idx rfl x_pk (x_e s_int))) (x_e (b_mul (x_e s_int) (x_e (s_idx rfl x_pk (x_e s_int))))))))) (x_e s_int))))) (x_e s_int)) (g_nm sc.nd nmi)) (ss_cons (st_asg (b_mod (x_e (f_int F.v_int (x_e (b_mul x_pk (x_e (b_add rfl (x_e (b_fdiv x_pk (x_e s_int))) (x_e s_int))))))) (x_e s_int)) (g_nm sc.nd nmi)) (ss_cons (st_asg (b_mod (x_e (f_int F.v_int (x_e (b_mul x_pk (x_e (b_add rfl (x_e (b_fdiv x_pk (x_e s_int))) (x_e s_int))))))) (x_e s_int)) (g_nm sc.nd nmi)) (ss_cons (st_ret (b_mod (x_e (f_int F.v_int (x_e (b_fdiv x_pk (x_e s_int))))) x_pk)) ss_nil)))))))
theorem ok__law_any (F : Fs K mg) (TB : ∀ (i : Nat) {p : He.Defn}, tf[i]? = some p → LamX.TabB base mg (He.cT K p).1 (He.cT K p).2) (A : All P w K mg base WF n) : FnOk P w K mg base (L2.CX P w) (4 * (n + 1) + 1) (He.fAd K ("_law_any", none)) (fdOf K ("_law_any", none)) ["hand", "some"] (spF (Yw K) (callD tb WF (n + 1) 15)) := by
  have sc := sc__law_any
  rw [callD_succ (fn := fn__law_any) rfl]
  refine fn_ok (k := 4 * (n + 1)) (U := ⟨WF, callD tb WF n, mdOf tb⟩) F.d__law_any sc rfl rfl fun cdv A0 outer s0 H0 E hr3 hcd => ?_
  have hr1 : Room (4 * n + 1) _ := hr3.mono (by omega)
  exact (ss_cons (st_ret (s_idx rfl x_pk (x_e (s_callD A.f__law_draw F.g__law_draw hr1 (takes_of rfl rfl rfl rfl) (a_cons x_pk (a_cons (x_e (f_len rfl F.v_len x_pk)) a_nil)))))) ss_nil)
theorem ok__law_same (F : Fs K mg) (TB : ∀ (i : Nat) {p : He.Defn}, tf[i]? = some p → LamX.TabB base mg (He.cT K p).1 (He.cT K p).2) (A : All P w K mg base WF n) : FnOk P w K mg base (L2.CX P w) (4 * (n + 1) + 1) (He.fAd K ("_law_same", none)) (fdOf K ("_law_same", none)) ["one", "due"] (spF (Yw K) (callD tb WF (n + 1) 16)) := by
  have sc := sc__law_same
  rw [callD_succ (fn := fn__law_same) rfl]
  refine fn_ok (k := 4 * (n + 1)) (U := ⟨WF, callD tb WF n, mdOf tb⟩) F.d__law_same sc rfl rfl fun cdv A0 outer s0 H0 E hr3 hcd => ?_
  have hr1 : Room (4 * n + 1) _ := hr3.mono (by omega)
  exact (ss_cons (st_if (t_of (s_isiT rfl (isC_ok F) F.v_isinstance (.cons (.bi (by intro c z; cases z)) (.cons (.bi (by intro c z; cases z)) .nil)) (.cons (.ty "tuple") (.cons (.ty "list") .nil)) (by simp) (by decide) (pa_c1 (pe_bltn rfl F.v_tuple (by decide +kernel) rfl) (pa_c1 (pe_bltn rfl F.v_list (by decide +kernel) rfl) pa_c0)) x_pk)) (ss_cons (st_if (t_pw (w_or (c_t (k_ne rfl (u64 hr1.u69)) (x_e (s_isi rfl (isC_ok F) F.v_isinstance (.bi (by intro c z; cases z)) (.ty "tuple") (pe_bltn rfl F.v_tuple (by decide +kernel) rfl) x_pk)) (x_e (s_isi rfl (isC_ok F) F.v_isinstance (.bi (by intro c z; cases z)) (.ty "tuple") (pe_bltn rfl F.v_tuple (by decide +kernel) rfl) x_pk))) (w_or1 (t_not (t_of (s_isiT rfl (isC_ok F) F.v_isinstance (.cons (.bi (by intro c z; cases z)) (.cons (.bi (by intro c z; cases z)) .nil)) (.cons (.ty "tuple") (.cons (.ty "list") .nil)) (by simp) (by decide) (pa_c1 (pe_bltn rfl F.v_tuple (by decide +kernel) rfl) (pa_c1 (pe_bltn rfl F.v_list (by decide +kernel) rfl) pa_c0)) x_pk)))))) (ss_cons (st_ret s_bl) ss_nil) ss_nil) (ss_cons (st_ret (s_and (c_e (k_eq rfl (u64 hr1.u69)) (x_e (f_len rfl F.v_len x_pk)) (x_e (f_len rfl F.v_len x_pk))) (s_and1 (f_all rfl F.v_all (x_e (s_lc0 (own := [("a", 2), ("b", 3)]) rfl sc.nd (i_zip rfl F.v_zip (a_cons (x_e s_var) (a_cons (x_e s_var) a_nil))) (blkOk_by (by rfl)) (fun _ _ _ _ _ => (g_tp rfl rfl sc.nd (.cons nmi (.cons nmi .nil)))) (fun _ _ _ _ _ => (s_callD A.f__law_same F.g__law_same hr1 L2.takes0 (a_cons x_pk (a_cons x_pk a_nil)))))))))) ss_nil)) ss_nil) (ss_cons (st_if (t_pw (w_or (t_of (s_isi rfl (isC_ok F) F.v_isinstance (.bi (by intro c z; cases z)) (.ty "bool") (pe_bltn rfl F.v_bool (by decide +kernel) rfl) x_pk)) (w_or (t_of (s_isi rfl (isC_ok F) F.v_isinstance (.bi (by intro c z; cases z)) (.ty "bool") (pe_bltn rfl F.v_bool (by decide +kernel) rfl) x_pk)) (w_or (t_isN x_pk) (w_or1 (t_isN x_pk)))))) (ss_cons (st_ret (s_and (c_e (k_eq rfl (u64 hr1.u69)) (x_e (s_isi rfl (isC_ok F) F.v_isinstance (.bi (by intro c z; cases z)) (.ty "bool") (pe_bltn rfl F.v_bool (by decide +kernel) rfl) x_pk)) (x_e (s_isi rfl (isC_ok F) F.v_isinstance (.bi (by intro c z; cases z)) (.ty "bool") (pe_bltn rfl F.v_bool (by decide +kernel) rfl) x_pk))) (s_and (c_e (k_eq rfl (u64 hr1.u69)) (x_e (c_isN x_pk)) (x_e (c_isN x_pk))) (s_and1 (c_e (k_eq rfl (u64 hr1.u69)) x_pk x_pk))))) ss_nil) ss_nil) (ss_cons (st_ret (s_and (c_e (k_eq rfl (u64 hr1.u69)) (x_e (s_isi rfl (isC_ok F) F.v_isinstance (.bi (by intro c z; cases z)) (.ty "str") (pe_bltn rfl F.v_str (by decide +kernel) rfl) x_pk)) (x_e (s_isi rfl (isC_ok F) F.v_isinstance (.bi (by intro c z; cases z)) (.ty "str") (pe_bltn rfl F.v_str (by decide +kernel) rfl) x_pk))) (s_and (s_isiT rfl (isC_ok F) F.v_isinstance (.cons (.bi (by intro c z; cases z)) (.cons (.bi (by intro c z; cases z)) .nil)) (.cons (.ty "int") (.cons (.ty "str") .nil)) (by simp) (by decide) (pa_c1 (pe_bltn rfl F.v_int (by decide +kernel) rfl) (pa_c1 (pe_bltn rfl F.v_str (by decide +kernel) rfl) pa_c0)) x_pk) (s_and1 (c_e (k_eq rfl (u64 hr1.u69)) x_pk x_pk))))) ss_nil)))
theorem ok__law_odd (F : Fs K mg) (TB : ∀ (i : Nat) {p : He.Defn}, tf[i]? = some p → LamX.TabB base mg (He.cT K p).1 (He.cT K p).2) (A : All P w K mg base WF n) : FnOk P w K mg base (L2.CX P w) (4 * (n + 1) + 1) (He.fAd K ("_law_odd", none)) (fdOf K ("_law_odd", none)) ["hand"] (spF (Yw K) (callD tb WF (n + 1) 17)) := by
  have sc := sc__law_odd
  rw [callD_succ (fn := fn__law_odd) rfl]
  refine fn_ok (k := 4 * (n + 1)) (U := ⟨WF, callD tb WF n, mdOf tb⟩) F.d__law_odd sc rfl rfl fun cdv A0 outer s0 H0 E hr3 hcd => ?_
  have hr1 : Room (4 * n + 1) _ := hr3.mono (by omega)
  exact (ss_cons (st_asg s_non (g_nm sc.nd nmi)) (ss_cons (st_for (passes_of rfl) rfl (i_rng1 F.v_range (a_cons (x_e (b_add rfl (x_e s_int) (x_e (s_callD A.f__law_draw F.g__law_draw hr1 (takes_of rfl rfl rfl rfl) (a_cons x_pk (a_cons (x_e s_int) a_nil)))))) a_nil)) (g_nm sc.nd nmi) (ss_cons (st_asg (s_idx rfl (x_e (s_lst (a_cons (x_e (s_tup (a_cons (x_e s_var) a_nil))) (a_cons (x_e (s_lst (a_cons (x_e s_var) a_nil))) (a_cons (x_e (s_dsp1 pe_int (x_e s_var))) a_nil))))) (x_e (s_callD A.f__law_draw F.g__law_draw hr1 (takes_of rfl rfl rfl rfl) (a_cons x_pk (a_cons (x_e s_int) a_nil))))) (g_nm sc.nd nmi)) ss_nil)) (ss_cons (st_ret (s_callD A.f__law_any F.g__law_any hr1 (takes_of rfl rfl rfl rfl) (a_cons x_pk (a_cons (x_e (s_lst (a_cons (x_e s_non) (a_cons (x_e s_bl) (a_cons (x_e s_bl) (a_cons (x_e (u_neg (x_e s_int))) (a_cons (x_e s_str) (a_cons (x_e s_str) (a_cons (x_e (s_lst a_nil)) (a_cons (x_e s_dnew) (a_cons (x_e (s_tup (a_cons (x_e (s_tup a_nil)) a_nil))) (a_cons (x_e (s_tup (a_cons (x_e s_non) a_nil))) (a_cons (x_e (s_tup (a_cons (x_e (s_tup (a_cons (x_e s_int) (a_cons (x_e s_int) a_nil)))) a_nil))) (a_cons (x_e (b_pow (x_e s_int) (x_e s_int))) (a_cons (x_e s_var) a_nil))))))))))))))) a_nil)))) ss_nil)))
theorem ok__law_common (F : Fs K mg) (TB : ∀ (i : Nat) {p : He.Defn}, tf[i]? = some p → LamX.TabB base mg (He.cT K p).1 (He.cT K p).2) (A : All P w K mg base WF n) : FnOk P w K mg base (L2.CX P w) (4 * (n + 1) + 1) (He.fAd K ("_law_common", none)) (fdOf K ("_law_common", none)) ["one", "other"] (spF (Yw K) (callD tb WF (n + 1) 18)) := by
  have sc := sc__law_common
  rw [callD_succ (fn := fn__law_common) rfl]
  refine fn_ok (k := 4 * (n + 1)) (U := ⟨WF, callD tb WF n, mdOf tb⟩) F.d__law_common sc rfl rfl fun cdv A0 outer s0 H0 E hr3 hcd => ?_
  have hr1 : Room (4 * n + 1) _ := hr3.mono (by omega)
  exact (ss_cons (st_while (passes_of rfl) (c_t k_gt x_pk (x_e s_int)) (ss_cons (st_par2 rfl sc.nd (p_cons s_var (p_cons (b_mod (x_e (f_int F.v_int x_pk)) x_pk) p_nil))) ss_nil)) (ss_cons (st_ret s_var) ss_nil))
theorem ok__law_bits (F : Fs K mg) (TB : ∀ (i : Nat) {p : He.Defn}, tf[i]? = some p → LamX.TabB base mg (He.cT K p).1 (He.cT K p).2) (A : All P w K mg base WF n) : FnOk P w K mg base (L2.CX P w) (4 * (n + 1) + 1) (He.fAd K ("_law_bits", none)) (fdOf K ("_law_bits", none)) ["coins", "bound_here"] (spF (Yw K) (callD tb WF (n + 1) 19)) := by
  have sc := sc__law_bits
  rw [callD_succ (fn := fn__law_bits) rfl]
  refine fn_ok (k := 4 * (n + 1)) (U := ⟨WF, callD tb WF n, mdOf tb⟩) F.d__law_bits sc rfl rfl fun cdv A0 outer s0 H0 E hr3 hcd => ?_
  have hr1 : Room (4 * n + 1) _ := hr3.mono (by omega)
  exact (ss_cons (st_asg (s_lst (a_cons (x_e s_bl) a_nil)) (g_nm sc.nd nmi)) (ss_cons (st_for (passes_of rfl) rfl (i_rng2 F.v_range (a_cons (x_e s_int) (a_cons (x_e (b_add rfl x_pk (x_e s_int))) a_nil))) (g_nm sc.nd nmi) (ss_cons (st_ex (s_app x_pk (a_cons (x_e (f_any rfl F.v_any (x_e (s_lcp0 (own := [("coin", 4)]) rfl sc.nd rfl (fun _ => trivial) x_pk (blkOk_by (by rfl)) (fun _ _ _ _ _ => (g_nm sc.nd nmi)) (fun _ _ _ _ _ => (s_and (c_e k_le x_pk x_pk) (s_and1 (s_idx rfl x_pk (x_e (b_sub x_pk x_pk)))))))))) a_nil))) ss_nil)) (ss_cons (st_ret s_mv) ss_nil)))
theorem ok__law_needed (F : Fs K mg) (TB : ∀ (i : Nat) {p : He.Defn}, tf[i]? = some p → LamX.TabB base mg (He.cT K p).1 (He.cT K p).2) (A : All P w K mg base WF n) : FnOk P w K mg base (L2.CX P w) (4 * (n + 1) + 1) (He.fAd K ("_law_needed", none)) (fdOf K ("_law_needed", none)) ["coins"] (spF (Yw K) (callD tb WF (n + 1) 20)) := by
  have sc := sc__law_needed
  rw [callD_succ (fn := fn__law_needed) rfl]
  refine fn_ok (k := 4 * (n + 1)) (U := ⟨WF, callD tb WF n, mdOf tb⟩) F.d__law_needed sc rfl rfl fun cdv A0 outer s0 H0 E hr3 hcd => ?_
  have hr1 : Room (4 * n + 1) _ := hr3.mono (by omega)
  exact (ss_cons (st_asg (s_lst a_nil) (g_nm sc.nd nmi)) (ss_cons (st_for (passes_of rfl) rfl (i_seq rfl (x_e (f_srt rfl F.v_sorted x_pk))) (g_nm sc.nd nmi) (ss_cons (st_if (t_pw (w_or (c_t (k_eq rfl (u64 hr1.u69)) (x_e (f_len rfl F.v_len x_pk)) (x_e s_int)) (w_or1 (t_not (t_of (s_idx rfl (x_e (s_callD A.f__law_bits F.g__law_bits hr1 (takes_of rfl rfl rfl rfl) (a_cons x_pk (a_cons x_pk a_nil)))) x_pk)))))) (ss_cons (st_ex (s_app x_pk (a_cons (x_e s_var) a_nil))) ss_nil) ss_nil) ss_nil)) (ss_cons (st_ret (f_tupOf rfl F.v_tuple x_pk)) ss_nil)))
theorem ok__law_drawn (F : Fs K mg) (TB : ∀ (i : Nat) {p : He.Defn}, tf[i]? = some p → LamX.TabB base mg (He.cT K p).1 (He.cT K p).2) (A : All P w K mg base WF n) : FnOk P w K mg base (L2.CX P w) (4 * (n + 1) + 1) (He.fAd K ("_law_drawn", none)) (fdOf K ("_law_drawn", none)) ["hand", "least_here", "most_here", "many"] (spF (Yw K) (callD tb WF (n + 1) 21)) := by
  have sc := sc__law_drawn
  rw [callD_succ (fn := fn__law_drawn) rfl]
  refine fn_ok (k := 4 * (n + 1)) (U := ⟨WF, callD tb WF n, mdOf tb⟩) F.d__law_drawn sc rfl rfl fun cdv A0 outer s0 H0 E hr3 hcd => ?_
  have hr1 : Room (4 * n + 1) _ := hr3.mono (by omega)
  exact (ss_cons (st_asgLc0 (own := [("coin", 6)]) rfl sc.nd (i_rng1 F.v_range (a_cons (x_e (b_add rfl (x_e s_int) (x_e (s_callD A.f__law_draw F.g__law_draw hr1 (takes_of rfl rfl rfl rfl) (a_cons x_pk (a_cons (x_e (b_sub x_pk (x_e s_int))) a_nil)))))) a_nil)) (blkOk_by (by rfl)) (fun _ _ _ _ _ => (g_nm sc.nd nmi)) (fun _ _ _ _ _ => (b_add rfl x_pk (x_e (s_callD A.f__law_draw F.g__law_draw hr1 L2.takes0 (a_cons x_pk (a_cons (x_e (b_sub (x_e (b_add rfl x_pk (x_e s_int))) x_pk)) a_nil))))))) (ss_cons (st_asg s_int (g_nm sc.nd nmi)) (ss_cons (st_frp (passes_of rfl) rfl rfl (fun _ => trivial) x_pk (g_nm sc.nd nmi) (ss_cons (st_asg (s_callD A.f__law_common F.g__law_common hr1 (takes_of rfl rfl rfl rfl) (a_cons (x_e s_var) (a_cons (x_e s_var) a_nil))) (g_nm sc.nd nmi)) ss_nil)) (ss_cons (st_if (c_t k_gt x_pk (x_e s_int)) (ss_cons (st_ex (s_app x_pk (a_cons (x_e (b_add rfl (x_e (f_max rfl rfl F.v_max x_pk)) (x_e s_int))) a_nil))) ss_nil) ss_nil) (ss_cons (st_ret (s_callD A.f__law_needed F.g__law_needed hr1 (takes_of rfl rfl rfl rfl) (a_cons x_pk a_nil))) ss_nil)))))
theorem ok__law_marks (F : Fs K mg) (TB : ∀ (i : Nat) {p : He.Defn}, tf[i]? = some p → LamX.TabB base mg (He.cT K p).1 (He.cT K p).2) (A : All P w K mg base WF n) : FnOk P w K mg base (L2.CX P w) (4 * (n + 1) + 1) (He.fAd K ("_law_marks", none)) (fdOf K ("_law_marks", none)) ["bits", "most_here"] (spF (Yw K) (callD tb WF (n + 1) 22)) := by
  have sc := sc__law_marks
  rw [callD_succ (fn := fn__law_marks) rfl]
  refine fn_ok (k := 4 * (n + 1)) (U := ⟨WF, callD tb WF n, mdOf tb⟩) F.d__law_marks sc rfl rfl fun cdv A0 outer s0 H0 E hr3 hcd => ?_
  have hr1 : Room (4 * n + 1) _ := hr3.mono (by omega)
  exact (ss_cons (st_asg (s_lst (a_cons (x_e s_int) a_nil)) (g_nm sc.nd nmi)) (ss_cons (st_for (passes_of rfl) rfl (i_rng2 F.v_range (a_cons (x_e s_int) (a_cons (x_e (b_add rfl x_pk (x_e s_int))) a_nil))) (g_nm sc.nd nmi) (ss_cons (st_asgLc1 (own := [("x", 5)]) rfl sc.nd (i_rng1 F.v_range (a_cons (x_e s_var) a_nil)) (blkOk_by (by rfl)) (fun _ _ _ _ _ => (g_nm sc.nd nmi)) (fun _ _ _ _ _ => (t_pw (w_and (t_of (s_idx rfl x_pk x_pk)) (w_and1 (t_of (s_idx rfl x_pk (x_e (b_sub x_pk x_pk)))))))) (fun _ _ _ _ _ => (s_idx rfl x_pk x_pk))) (ss_cons (st_ex (s_app x_pk (a_cons (x_e (s_ite (t_of (s_idx rfl x_pk x_pk)) (b_sub (x_e s_int) (x_e (f_sum rfl rfl F.v_sum x_pk))) s_int)) a_nil))) ss_nil))) (ss_cons (st_ret s_mv) ss_nil)))
theorem ok__law_two (F : Fs K mg) (TB : ∀ (i : Nat) {p : He.Defn}, tf[i]? = some p → LamX.TabB base mg (He.cT K p).1 (He.cT K p).2) (A : All P w K mg base WF n) : FnOk P w K mg base (L2.CX P w) (4 * (n + 1) + 1) (He.fAd K ("_law_two", none)) (fdOf K ("_law_two", none)) ["one", "other", "most_here"] (spF (Yw K) (callD tb WF (n + 1) 23)) := by
  have sc := sc__law_two
  rw [callD_succ (fn := fn__law_two) rfl]
  refine fn_ok (k := 4 * (n + 1)) (U := ⟨WF, callD tb WF n, mdOf tb⟩) F.d__law_two sc rfl rfl fun cdv A0 outer s0 H0 E hr3 hcd => ?_
  have hr1 : Room (4 * n + 1) _ := hr3.mono (by omega)
  exact (ss_cons (st_asg (b_rep rfl (x_e (s_lst (a_cons (x_e s_int) a_nil))) (x_e (b_add rfl x_pk (x_e s_int)))) (g_nm sc.nd nmi)) (ss_cons (st_for (passes_of rfl) rfl (i_seq rfl (x_e (s_tup (a_cons (x_e (s_tup (a_cons (x_e s_int) (a_cons (x_e s_int) a_nil)))) (a_cons (x_e (s_tup (a_cons (x_e s_var) (a_cons (x_e (u_neg (x_e s_int))) a_nil)))) (a_cons (x_e (s_tup (a_cons (x_e s_var) (a_cons (x_e (u_neg (x_e s_int))) a_nil)))) (a_cons (x_e (s_tup (a_cons (x_e (b_add rfl x_pk x_pk)) (a_cons (x_e s_int) a_nil)))) a_nil))))))) (g_tp rfl rfl sc.nd (.cons nmi (.cons nmi .nil))) (ss_cons (st_for (passes_of rfl) rfl (i_rng3 F.v_range (a_cons (x_e s_var) (a_cons (x_e (b_add rfl x_pk (x_e s_int))) (a_cons (x_e (b_mul x_pk x_pk)) a_nil)))) (g_nm sc.nd nmi) (ss_cons (st_seti x_pk (x_e (b_add rfl (x_e (s_idx rfl x_pk x_pk)) x_pk)) (x_e s_var)) ss_nil)) ss_nil)) (ss_cons (st_ret s_mv) ss_nil)))
theorem ok_law (F : Fs K mg) (TB : ∀ (i : Nat) {p : He.Defn}, tf[i]? = some p → LamX.TabB base mg (He.cT K p).1 (He.cT K p).2) (A : All P w K mg base WF n) : FnOk P w K mg base (L2.CX P w) (4 * (n + 1) + 1) (He.fAd K ("law", none)) (fdOf K ("law", none)) ["script"] (spF (Yw K) (callD tb WF (n + 1) 25)) := by
  have sc := sc_law
  rw [callD_succ (fn := fn_law) rfl]
  refine fn_ok (k := 4 * (n + 1)) (U := ⟨WF, callD tb WF n, mdOf tb⟩) F.d_law sc rfl rfl fun cdv A0 outer s0 H0 E hr3 hcd => ?_
  have hr1 : Room (4 * n + 1) _ := hr3.mono (by omega)
  exact (ss_cons (st_asg (s_callD A.f__law_hand F.g__law_hand hr1 (takes_of rfl rfl rfl rfl) (a_cons x_pk a_nil)) (g_nm sc.nd nmi)) (ss_cons (st_for (passes_of rfl) rfl (i_rng1 F.v_range (a_cons (x_e s_int) a_nil)) (g_nm sc.nd nmi) (ss_cons (st_par2 rfl sc.nd (p_cons (s_callD A.f__law_any F.g__law_any hr1 (takes_of rfl rfl rfl rfl) (a_cons x_pk (a_cons (x_e (b_add rfl (x_e (b_rep rfl (x_e (s_lst (a_cons (x_e (s_callD A.f__law_drawn F.g__law_drawn hr1 (takes_of rfl rfl rfl rfl) (a_cons x_pk (a_cons (x_e s_int) (a_cons (x_e s_int) (a_cons (x_e s_int) a_nil)))))) a_nil))) (x_e s_int))) (x_e (s_lst (a_cons (x_e (s_tup (a_cons (x_e s_int) a_nil))) a_nil))))) a_nil))) (p_cons (s_callD A.f__law_draw F.g__law_draw hr1 (takes_of rfl rfl rfl rfl) (a_cons x_pk (a_cons (x_e s_int) a_nil))) p_nil))) (ss_cons (st_asg (s_tup (a_cons (x_e (s_mk (c := 4) F.M_System okc_System A.f_System___init__ (hr3.mono (by omega)) F.c_System F.b_System___init__ (takes_of rfl rfl rfl rfl) (a_cons (x_e s_var) a_nil))) (a_cons (x_e (s_callD A.f__law_bits F.g__law_bits hr1 (takes_of rfl rfl rfl rfl) (a_cons x_pk (a_cons x_pk a_nil)))) a_nil))) (g_tp rfl rfl sc.nd (.cons nmi (.cons nmi .nil)))) (ss_cons (st_asg (s_tup (a_cons (x_e (s_callD A.f__law_marks F.g__law_marks hr1 (takes_of rfl rfl rfl rfl) (a_cons x_pk (a_cons x_pk a_nil)))) (a_cons (x_e (s_callD A.f_order_mark F.g_order_mark hr1 (takes_of rfl rfl rfl rfl) (a_cons x_pk (a_cons x_pk a_nil)))) a_nil))) (g_tp rfl rfl sc.nd (.cons nmi (.cons nmi .nil)))) (ss_cons (st_if (t_not (t_of (s_callD A.f__law_same F.g__law_same hr1 (takes_of rfl rfl rfl rfl) (a_cons (x_e (f_lstOf rfl F.v_list x_pk)) (a_cons x_pk a_nil))))) (ss_cons (st_ret s_bl) ss_nil) ss_nil) (ss_cons (st_for (passes_of rfl) rfl (i_rng2 F.v_range (a_cons (x_e s_int) (a_cons (x_e (b_add rfl x_pk (x_e s_int))) a_nil))) (g_nm sc.nd nmi) (ss_cons (st_if (c_t (k_ne rfl (u64 hr1.u69)) (x_e (f_sum rfl rfl F.v_sum (x_e (s_lc1 (own := [("x", 14)]) rfl sc.nd (i_rng1 F.v_range (a_cons (x_e (b_add rfl x_pk (x_e s_int))) a_nil)) (blkOk_by (by rfl)) (fun _ _ _ _ _ => (g_nm sc.nd nmi)) (fun _ _ _ _ _ => (t_of (s_idx rfl x_pk (x_e (b_sub x_pk x_pk))))) (fun _ _ _ _ _ => (s_idx rfl x_pk x_pk)))))) (x_e s_int)) (ss_cons (st_ret s_bl) ss_nil) ss_nil) ss_nil)) (ss_cons (st_if (t_pw (w_and (c_t (k_eq rfl (u64 hr1.u69)) (x_e (f_len rfl F.v_len x_pk)) (x_e s_int)) (w_and1 (c_t (k_ne rfl (u64 hr1.u69)) (x_e (s_callD A.f__law_two F.g__law_two hr1 (takes_of rfl rfl rfl rfl) (a_cons (x_e (s_idx rfl x_pk (x_e s_int))) (a_cons (x_e (s_idx rfl x_pk (x_e s_int))) (a_cons x_pk a_nil))))) x_pk)))) (ss_cons (st_ret s_bl) ss_nil) ss_nil) (ss_cons (st_asg (s_callD A.f__law_draw F.g__law_draw hr1 (takes_of rfl rfl rfl rfl) (a_cons x_pk (a_cons (x_e (b_add rfl x_pk (x_e s_int))) a_nil))) (g_nm sc.nd nmi)) (ss_cons (st_if (c_t (k_ne rfl (u64 hr1.u69)) (x_e (f_lstOf rfl F.v_list (x_e (s_callD A.f_order_mark F.g_order_mark hr1 (takes_of rfl rfl rfl rfl) (a_cons x_pk (a_cons x_pk a_nil)))))) (x_e (s_slB rfl x_pk (b_add rfl x_pk (x_e s_int))))) (ss_cons (st_ret s_bl) ss_nil) ss_nil) (ss_cons (st_asg (s_callD A.f__law_any F.g__law_any hr1 (takes_of rfl rfl rfl rfl) (a_cons x_pk (a_cons (x_e (s_lst (a_cons (x_e (u_neg (x_e s_int))) (a_cons (x_e s_int) (a_cons (x_e s_bl) (a_cons (x_e s_non) (a_cons (x_e s_str) (a_cons (x_e (s_tup (a_cons (x_e s_int) a_nil))) (a_cons (x_e (s_lst a_nil)) (a_cons (x_e (b_pow (x_e s_int) (x_e s_int))) a_nil)))))))))) a_nil))) (g_nm sc.nd nmi)) (ss_cons (st_asg (s_callD A.f__law_any F.g__law_any hr1 (takes_of rfl rfl rfl rfl) (a_cons x_pk (a_cons (x_e (s_lst (a_cons (x_e s_non) (a_cons (x_e s_int) (a_cons (x_e s_str) (a_cons (x_e (s_lst (a_cons (x_e s_var) a_nil))) (a_cons (x_e s_dnew) (a_cons (x_e s_var) (a_cons (x_e (s_callD A.f__law_odd F.g__law_odd hr1 (takes_of rfl rfl rfl rfl) (a_cons x_pk a_nil))) a_nil))))))))) a_nil))) (g_nm sc.nd nmi)) (ss_cons (st_asg (s_lst (a_cons (x_e (s_lamD (k := 4 * n + 2) (WordOk.of F.d__law_word F.g__law_word) sc__law_word (fun cdv => by cases n with | zero => exact .inl fun _ => rfl | succ n => exact .inr (gives__law_word _ F (hr3.mono (by omega)) n _ cdv _)) (TB tix_law rfl) hcd (List.mem_iff_getElem?.mpr ⟨tix_law, rfl⟩) F.nd hr3 (fun A1 outer s H E f c hr => (s_callD A.f_order_mark F.g_order_mark (hr.mono (by omega)) (takes_of rfl rfl rfl rfl) (a_cons x_pk (a_cons x_pk a_nil)))))) a_nil)) (g_nm sc.nd nmi)) (ss_cons (st_ex (s_app x_pk (a_cons (x_e (s_lamD (k := 4 * n + 2) (WordOk.of F.d__law_word F.g__law_word) sc__law_word (fun cdv => by cases n with | zero => exact .inl fun _ => rfl | succ n => exact .inr (gives__law_word _ F (hr3.mono (by omega)) n _ cdv _)) (TB tix_law rfl) hcd (List.mem_iff_getElem?.mpr ⟨tix_law, rfl⟩) F.nd hr3 (fun A1 outer s H E f c hr => (s_callD A.f_order_mark F.g_order_mark (hr.mono (by omega)) (takes_of rfl rfl rfl rfl) (a_cons x_pk (a_cons x_pk a_nil)))))) a_nil))) (ss_cons (st_if (c_t (k_ne rfl (u64 hr1.u69)) x_pk (x_e (s_lst (a_cons (x_e s_str) (a_cons (x_e s_str) a_nil))))) (ss_cons (st_ret s_bl) ss_nil) ss_nil) ss_nil)))))))))))))) (ss_cons (st_ret s_bl) ss_nil)))
theorem ok_System___init__ (F : Fs K mg) (TB : ∀ (i : Nat) {p : He.Defn}, tf[i]? = some p → LamX.TabB base mg (He.cT K p).1 (He.cT K p).2) (A : All P w K mg base WF n) : FnOk P w K mg base (L2.CX P w) (4 * (n + 1) + 1) (He.fAd K ("System", some "__init__")) (fdOf K ("System", some "__init__")) ["self", "coins"] (spF (Yw K) (callD tb WF (n + 1) 8)) := by
  have sc := sc_System___init__
  rw [callD_succ (fn := fn_System___init__) rfl]
  refine fn_ok (k := 4 * (n + 1)) (U := ⟨WF, callD tb WF n, mdOf tb⟩) F.d_System___init__ sc rfl rfl fun cdv A0 outer s0 H0 E hr3 hcd => ?_
  have hr1 : Room (4 * n + 1) _ := hr3.mono (by omega)
  exact (ss_cons (st_ex (s_callD A.f_check_coins F.g_check_coins hr1 (takes_of rfl rfl rfl rfl) (a_cons x_pk a_nil))) (ss_cons (st_setf (hcl_ok F F.q_coins) x_pk (x_e (f_tupOf rfl F.v_tuple (x_e (f_srt rfl F.v_sorted x_pk))))) (ss_cons (st_asg (s_callD A.f_built F.g_built hr1 (takes_of rfl rfl rfl rfl) (a_cons (x_e (f_lstOf rfl F.v_list (x_e (s_fld (hcl_ok F F.q_coins) x_pk)))) a_nil)) (g_tp rfl rfl sc.nd (.cons nmi (.cons nmi .nil)))) (ss_cons (st_setf (hcl_ok F F.q_needed_coins) x_pk (x_e (f_tupOf rfl F.v_tuple x_pk))) (ss_cons (st_setf (hcl_ok F F.q_rests) x_pk (x_e (f_tupOf rfl F.v_tuple x_pk))) ss_nil)))))
theorem all (F : Fs K mg) (TB : ∀ (i : Nat) {p : He.Defn}, tf[i]? = some p → LamX.TabB base mg (He.cT K p).1 (He.cT K p).2) : ∀ n, All P w K mg base WF n
  | 0 => all0 F
  | n + 1 => by
    have A : All P w K mg base WF n := all F TB n
    exact ⟨ok_is_integer F TB A, ok_is_within F TB A, ok_common F TB A, ok_common_of F TB A, ok_round_up F TB A, ok_built F TB A, ok_check_coins F TB A, ok_check_system F TB A, ok_pays_of F TB A, ok_order_mark F TB A, ok__law_hand F TB A, ok__law_draw F TB A, ok__law_any F TB A, ok__law_same F TB A, ok__law_odd F TB A, ok__law_common F TB A, ok__law_bits F TB A, ok__law_needed F TB A, ok__law_drawn F TB A, ok__law_marks F TB A, ok__law_two F TB A, ok_law F TB A, ok_System___init__ F TB A⟩
end
/-! ### the head -/
def D_is_integer : He.DefD := ⟨("is_integer", none), "is_integer", "is_integer", defArgs t_is_integer, defBody t_is_integer, defScope t_is_integer, [], []⟩
def D_is_within : He.DefD := ⟨("is_within", none), "is_within", "is_within", defArgs t_is_within, defBody t_is_within, defScope t_is_within, [], []⟩
def D_common : He.DefD := ⟨("common", none), "common", "common", defArgs t_common, defBody t_common, defScope t_common, [], []⟩
def D_common_of : He.DefD := ⟨("common_of", none), "common_of", "common_of", defArgs t_common_of, defBody t_common_of, defScope t_common_of, [], []⟩
def D_round_up : He.DefD := ⟨("round_up", none), "round_up", "round_up", defArgs t_round_up, defBody t_round_up, defScope t_round_up, [], []⟩
def D_built : He.DefD := ⟨("built", none), "built", "built", defArgs t_built, defBody t_built, defScope t_built, [], []⟩
def D_check_coins : He.DefD := ⟨("check_coins", none), "check_coins", "check_coins", defArgs t_check_coins, defBody t_check_coins, defScope t_check_coins, [], []⟩
def D_check_system : He.DefD := ⟨("check_system", none), "check_system", "check_system", defArgs t_check_system, defBody t_check_system, defScope t_check_system, [], []⟩
def D_pays_of : He.DefD := ⟨("pays_of", none), "pays_of", "pays_of", defArgs t_pays_of, defBody t_pays_of, defScope t_pays_of, [], []⟩
def D_order_mark : He.DefD := ⟨("order_mark", none), "order_mark", "order_mark", defArgs t_order_mark, defBody t_order_mark, defScope t_order_mark, [], []⟩
def D__law_hand : He.DefD := ⟨("_law_hand", none), "_law_hand", "_law_hand", defArgs t__law_hand, defBody t__law_hand, defScope t__law_hand, [], []⟩
def D__law_draw : He.DefD := ⟨("_law_draw", none), "_law_draw", "_law_draw", defArgs t__law_draw, defBody t__law_draw, defScope t__law_draw, [], []⟩
def D__law_any : He.DefD := ⟨("_law_any", none), "_law_any", "_law_any", defArgs t__law_any, defBody t__law_any, defScope t__law_any, [], []⟩
def D__law_same : He.DefD := ⟨("_law_same", none), "_law_same", "_law_same", defArgs t__law_same, defBody t__law_same, defScope t__law_same, [], []⟩
def D__law_odd : He.DefD := ⟨("_law_odd", none), "_law_odd", "_law_odd", defArgs t__law_odd, defBody t__law_odd, defScope t__law_odd, [], []⟩
def D__law_common : He.DefD := ⟨("_law_common", none), "_law_common", "_law_common", defArgs t__law_common, defBody t__law_common, defScope t__law_common, [], []⟩
def D__law_bits : He.DefD := ⟨("_law_bits", none), "_law_bits", "_law_bits", defArgs t__law_bits, defBody t__law_bits, defScope t__law_bits, [], []⟩
def D__law_needed : He.DefD := ⟨("_law_needed", none), "_law_needed", "_law_needed", defArgs t__law_needed, defBody t__law_needed, defScope t__law_needed, [], []⟩
def D__law_drawn : He.DefD := ⟨("_law_drawn", none), "_law_drawn", "_law_drawn", defArgs t__law_drawn, defBody t__law_drawn, defScope t__law_drawn, [], []⟩
def D__law_marks : He.DefD := ⟨("_law_marks", none), "_law_marks", "_law_marks", defArgs t__law_marks, defBody t__law_marks, defScope t__law_marks, [], []⟩
def D__law_two : He.DefD := ⟨("_law_two", none), "_law_two", "_law_two", defArgs t__law_two, defBody t__law_two, defScope t__law_two, [], []⟩
def D__law_word : He.DefD := ⟨("_law_word", none), "_law_word", "_law_word", defArgs t__law_word, defBody t__law_word, defScope t__law_word, [], []⟩
def D_law : He.DefD := ⟨("law", none), "law", "law", defArgs t_law, defBody t_law, defScope t_law, [], []⟩
def D_BadCoins : He.DefD := ⟨("BadCoins", some "__init__"), "__init__", "BadCoins.__init__", defArgs t_BadCoins, defBody t_BadCoins, defScope t_BadCoins, [], []⟩
def D_System___init__ : He.DefD := ⟨("System", some "__init__"), "__init__", "System.__init__", defArgs t_System___init__, defBody t_System___init__, defScope t_System___init__, [], []⟩
def fn : List He.DefD := [D_is_integer, D_is_within, D_common, D_common_of, D_round_up, D_built, D_check_coins, D_check_system, D_pays_of, D_order_mark, D__law_hand, D__law_draw, D__law_any, D__law_same, D__law_odd, D__law_common, D__law_bits, D__law_needed, D__law_drawn, D__law_marks, D__law_two, D__law_word, D_law, D_BadCoins, D_System___init__]
def fa : List He.Fa := [.glo "is_integer", .glo "is_within", .glo "common", .glo "common_of", .glo "round_up", .glo "built", .glo "check_coins", .glo "check_system", .glo "pays_of", .glo "order_mark", .glo "_law_hand", .glo "_law_draw", .glo "_law_any", .glo "_law_same", .glo "_law_odd", .glo "_law_common", .glo "_law_bits", .glo "_law_needed", .glo "_law_drawn", .glo "_law_marks", .glo "_law_two", .glo "_law_word", .glo "law", .glo "CoinError", .glo "BadNumber", .glo "NoSystem", .glo "BadCoins", .glo "System", .free "isinstance", .free "int", .free "bool", .free "abs", .free "range", .free "tuple", .free "len", .free "enumerate", .free "min", .free "sorted", .free "list", .free "sum", .free "zip", .free "all", .free "str", .free "any", .free "max", .free "ValueError", .int "MOST_COINS" 700, .int "MOST_COIN" 1000000, .int "MOST_LEAST" 2000, .int "MOST_GREAT" 2000, .exc "NoSystem", .exc "BadNumber", .mkr "System"]
def exB (K : PySem.W.Frag) : List Bool := [exnsB K xe, icB K xs xe.length, noinB K xs xe.length "coins", noinB K xs xe.length "needed_coins", noinB K xs xe.length "rests", isB K xe (.ref (He.ga K "BadNumber"), [1]), isB K xe (.ref (He.ga K "NoSystem"), [2]), isB K xe (.type "ValueError", [0, 1, 2, 3]), exmB K xe (He.ga K "CoinError", [0, 1, 2, 3]), oexB K (He.ga K "BadCoins"), decide (PySem.W.findIn K (.ref (He.ga K "BadCoins")) "__init__" = some (some (.ref (He.fAd K ("BadCoins", some "__init__"))))), decide (PySem.W.typeIn K (.ref (He.fAd K ("BadCoins", some "__init__"))) = some (.type "function")), decide (PySem.W.findIn K (.ref (He.ga K "BadCoins")) "at" = some none), decide (((tT K).map (·.1)).Nodup)]
def exAll (K : PySem.W.Frag) : Bool := (exB K).all id
theorem exB_at {K : PySem.W.Frag} (h : exAll K = true) (i : Nat) {b : Bool} (e : (exB K)[i]? = some b) : b = true := List.all_eq_true.mp h b (List.mem_of_getElem? e)
theorem fs_of {w : World} {h : Heap} {K : PySem.W.Frag} {mg : Str → Option Value} (X : K.In h) (Gm : h.Ns mainGlobals mg) (c : He.SaysX fa fn [] tf exAll w h K) : Fs K mg := by
  have c1 := c.t.d
  have d_is_integer : FunD K "is_integer" "is_integer" (defArgs t_is_integer) (defBody t_is_integer) (defScope t_is_integer) [] [] (He.fAd K ("is_integer", none)) (fdOf K ("is_integer", none)) := by obtain ⟨fd, h⟩ := c1.def_ 0 (d := D_is_integer) rfl; exact fdOf_is h
  have d_is_within : FunD K "is_within" "is_within" (defArgs t_is_within) (defBody t_is_within) (defScope t_is_within) [] [] (He.fAd K ("is_within", none)) (fdOf K ("is_within", none)) := by obtain ⟨fd, h⟩ := c1.def_ 1 (d := D_is_within) rfl; exact fdOf_is h
  have d_common : FunD K "common" "common" (defArgs t_common) (defBody t_common) (defScope t_common) [] [] (He.fAd K ("common", none)) (fdOf K ("common", none)) := by obtain ⟨fd, h⟩ := c1.def_ 2 (d := D_common) rfl; exact fdOf_is h
  have d_common_of : FunD K "common_of" "common_of" (defArgs t_common_of) (defBody t_common_of) (defScope t_common_of) [] [] (He.fAd K ("common_of", none)) (fdOf K ("common_of", none)) := by obtain ⟨fd, h⟩ := c1.def_ 3 (d := D_common_of) rfl; exact fdOf_is h
  have d_round_up : FunD K "round_up" "round_up" (defArgs t_round_up) (defBody t_round_up) (defScope t_round_up) [] [] (He.fAd K ("round_up", none)) (fdOf K ("round_up", none)) := by obtain ⟨fd, h⟩ := c1.def_ 4 (d := D_round_up) rfl; exact fdOf_is h
  have d_built : FunD K "built" "built" (defArgs t_built) (defBody t_built) (defScope t_built) [] [] (He.fAd K ("built", none)) (fdOf K ("built", none)) := by obtain ⟨fd, h⟩ := c1.def_ 5 (d := D_built) rfl; exact fdOf_is h
  have d_check_coins : FunD K "check_coins" "check_coins" (defArgs t_check_coins) (defBody t_check_coins) (defScope t_check_coins) [] [] (He.fAd K ("check_coins", none)) (fdOf K ("check_coins", none)) := by obtain ⟨fd, h⟩ := c1.def_ 6 (d := D_check_coins) rfl; exact fdOf_is h
  have d_check_system : FunD K "check_system" "check_system" (defArgs t_check_system) (defBody t_check_system) (defScope t_check_system) [] [] (He.fAd K ("check_system", none)) (fdOf K ("check_system", none)) := by obtain ⟨fd, h⟩ := c1.def_ 7 (d := D_check_system) rfl; exact fdOf_is h
  have d_pays_of : FunD K "pays_of" "pays_of" (defArgs t_pays_of) (defBody t_pays_of) (defScope t_pays_of) [] [] (He.fAd K ("pays_of", none)) (fdOf K ("pays_of", none)) := by obtain ⟨fd, h⟩ := c1.def_ 8 (d := D_pays_of) rfl; exact fdOf_is h
  have d_order_mark : FunD K "order_mark" "order_mark" (defArgs t_order_mark) (defBody t_order_mark) (defScope t_order_mark) [] [] (He.fAd K ("order_mark", none)) (fdOf K ("order_mark", none)) := by obtain ⟨fd, h⟩ := c1.def_ 9 (d := D_order_mark) rfl; exact fdOf_is h
  have d__law_hand : FunD K "_law_hand" "_law_hand" (defArgs t__law_hand) (defBody t__law_hand) (defScope t__law_hand) [] [] (He.fAd K ("_law_hand", none)) (fdOf K ("_law_hand", none)) := by obtain ⟨fd, h⟩ := c1.def_ 10 (d := D__law_hand) rfl; exact fdOf_is h
  have d__law_draw : FunD K "_law_draw" "_law_draw" (defArgs t__law_draw) (defBody t__law_draw) (defScope t__law_draw) [] [] (He.fAd K ("_law_draw", none)) (fdOf K ("_law_draw", none)) := by obtain ⟨fd, h⟩ := c1.def_ 11 (d := D__law_draw) rfl; exact fdOf_is h
  have d__law_any : FunD K "_law_any" "_law_any" (defArgs t__law_any) (defBody t__law_any) (defScope t__law_any) [] [] (He.fAd K ("_law_any", none)) (fdOf K ("_law_any", none)) := by obtain ⟨fd, h⟩ := c1.def_ 12 (d := D__law_any) rfl; exact fdOf_is h
  have d__law_same : FunD K "_law_same" "_law_same" (defArgs t__law_same) (defBody t__law_same) (defScope t__law_same) [] [] (He.fAd K ("_law_same", none)) (fdOf K ("_law_same", none)) := by obtain ⟨fd, h⟩ := c1.def_ 13 (d := D__law_same) rfl; exact fdOf_is h
  have d__law_odd : FunD K "_law_odd" "_law_odd" (defArgs t__law_odd) (defBody t__law_odd) (defScope t__law_odd) [] [] (He.fAd K ("_law_odd", none)) (fdOf K ("_law_odd", none)) := by obtain ⟨fd, h⟩ := c1.def_ 14 (d := D__law_odd) rfl; exact fdOf_is h
  have d__law_common : FunD K "_law_common" "_law_common" (defArgs t__law_common) (defBody t__law_common) (defScope t__law_common) [] [] (He.fAd K ("_law_common", none)) (fdOf K ("_law_common", none)) := by obtain ⟨fd, h⟩ := c1.def_ 15 (d := D__law_common) rfl; exact fdOf_is h
  have d__law_bits : FunD K "_law_bits" "_law_bits" (defArgs t__law_bits) (defBody t__law_bits) (defScope t__law_bits) [] [] (He.fAd K ("_law_bits", none)) (fdOf K ("_law_bits", none)) := by obtain ⟨fd, h⟩ := c1.def_ 16 (d := D__law_bits) rfl; exact fdOf_is h
  have d__law_needed : FunD K "_law_needed" "_law_needed" (defArgs t__law_needed) (defBody t__law_needed) (defScope t__law_needed) [] [] (He.fAd K ("_law_needed", none)) (fdOf K ("_law_needed", none)) := by obtain ⟨fd, h⟩ := c1.def_ 17 (d := D__law_needed) rfl; exact fdOf_is h
  have d__law_drawn : FunD K "_law_drawn" "_law_drawn" (defArgs t__law_drawn) (defBody t__law_drawn) (defScope t__law_drawn) [] [] (He.fAd K ("_law_drawn", none)) (fdOf K ("_law_drawn", none)) := by obtain ⟨fd, h⟩ := c1.def_ 18 (d := D__law_drawn) rfl; exact fdOf_is h
  have d__law_marks : FunD K "_law_marks" "_law_marks" (defArgs t__law_marks) (defBody t__law_marks) (defScope t__law_marks) [] [] (He.fAd K ("_law_marks", none)) (fdOf K ("_law_marks", none)) := by obtain ⟨fd, h⟩ := c1.def_ 19 (d := D__law_marks) rfl; exact fdOf_is h
  have d__law_two : FunD K "_law_two" "_law_two" (defArgs t__law_two) (defBody t__law_two) (defScope t__law_two) [] [] (He.fAd K ("_law_two", none)) (fdOf K ("_law_two", none)) := by obtain ⟨fd, h⟩ := c1.def_ 20 (d := D__law_two) rfl; exact fdOf_is h
  have d__law_word : FunD K "_law_word" "_law_word" (defArgs t__law_word) (defBody t__law_word) (defScope t__law_word) [] [] (He.fAd K ("_law_word", none)) (fdOf K ("_law_word", none)) := by obtain ⟨fd, h⟩ := c1.def_ 21 (d := D__law_word) rfl; exact fdOf_is h
  have d_law : FunD K "law" "law" (defArgs t_law) (defBody t_law) (defScope t_law) [] [] (He.fAd K ("law", none)) (fdOf K ("law", none)) := by obtain ⟨fd, h⟩ := c1.def_ 22 (d := D_law) rfl; exact fdOf_is h
  have d_BadCoins : FunD K "__init__" "BadCoins.__init__" (defArgs t_BadCoins) (defBody t_BadCoins) (defScope t_BadCoins) [] [] (He.fAd K ("BadCoins", some "__init__")) (fdOf K ("BadCoins", some "__init__")) := by obtain ⟨fd, h⟩ := c1.def_ 23 (d := D_BadCoins) rfl; exact fdOf_is h
  have d_System___init__ : FunD K "__init__" "System.__init__" (defArgs t_System___init__) (defBody t_System___init__) (defScope t_System___init__) [] [] (He.fAd K ("System", some "__init__")) (fdOf K ("System", some "__init__")) := by obtain ⟨fd, h⟩ := c1.def_ 24 (d := D_System___init__) rfl; exact fdOf_is h
  exact ⟨d_is_integer,
    d_is_within,
    d_common,
    d_common_of,
    d_round_up,
    d_built,
    d_check_coins,
    d_check_system,
    d_pays_of,
    d_order_mark,
    d__law_hand,
    d__law_draw,
    d__law_any,
    d__law_same,
    d__law_odd,
    d__law_common,
    d__law_bits,
    d__law_needed,
    d__law_drawn,
    d__law_marks,
    d__law_two,
    d__law_word,
    d_law,
    ⟨He.glo_ok X Gm (c1.fact 0 (f := .glo "is_integer") rfl), d_is_integer.kp, d_is_integer.bindsN (fun _ _ _ _ _ _ us hl => match us, hl with | [_], _ => rfl)⟩,
    ⟨He.glo_ok X Gm (c1.fact 1 (f := .glo "is_within") rfl), d_is_within.kp, d_is_within.bindsN (fun _ _ _ _ _ _ us hl => match us, hl with | [_, _, _], _ => rfl)⟩,
    ⟨He.glo_ok X Gm (c1.fact 2 (f := .glo "common") rfl), d_common.kp, d_common.bindsN (fun _ _ _ _ _ _ us hl => match us, hl with | [_, _], _ => rfl)⟩,
    ⟨He.glo_ok X Gm (c1.fact 3 (f := .glo "common_of") rfl), d_common_of.kp, d_common_of.bindsN (fun _ _ _ _ _ _ us hl => match us, hl with | [_], _ => rfl)⟩,
    ⟨He.glo_ok X Gm (c1.fact 4 (f := .glo "round_up") rfl), d_round_up.kp, d_round_up.bindsN (fun _ _ _ _ _ _ us hl => match us, hl with | [_, _, _, _], _ => rfl)⟩,
    ⟨He.glo_ok X Gm (c1.fact 5 (f := .glo "built") rfl), d_built.kp, d_built.bindsN (fun _ _ _ _ _ _ us hl => match us, hl with | [_], _ => rfl)⟩,
    ⟨He.glo_ok X Gm (c1.fact 6 (f := .glo "check_coins") rfl), d_check_coins.kp, d_check_coins.bindsN (fun _ _ _ _ _ _ us hl => match us, hl with | [_], _ => rfl)⟩,
    ⟨He.glo_ok X Gm (c1.fact 7 (f := .glo "check_system") rfl), d_check_system.kp, d_check_system.bindsN (fun _ _ _ _ _ _ us hl => match us, hl with | [_], _ => rfl)⟩,
    ⟨He.glo_ok X Gm (c1.fact 8 (f := .glo "pays_of") rfl), d_pays_of.kp, d_pays_of.bindsN (fun _ _ _ _ _ _ us hl => match us, hl with | [_, _], _ => rfl)⟩,
    ⟨He.glo_ok X Gm (c1.fact 9 (f := .glo "order_mark") rfl), d_order_mark.kp, d_order_mark.bindsN (fun _ _ _ _ _ _ us hl => match us, hl with | [_, _], _ => rfl)⟩,
    ⟨He.glo_ok X Gm (c1.fact 10 (f := .glo "_law_hand") rfl), d__law_hand.kp, d__law_hand.bindsN (fun _ _ _ _ _ _ us hl => match us, hl with | [_], _ => rfl)⟩,
    ⟨He.glo_ok X Gm (c1.fact 11 (f := .glo "_law_draw") rfl), d__law_draw.kp, d__law_draw.bindsN (fun _ _ _ _ _ _ us hl => match us, hl with | [_, _], _ => rfl)⟩,
    ⟨He.glo_ok X Gm (c1.fact 12 (f := .glo "_law_any") rfl), d__law_any.kp, d__law_any.bindsN (fun _ _ _ _ _ _ us hl => match us, hl with | [_, _], _ => rfl)⟩,
    ⟨He.glo_ok X Gm (c1.fact 13 (f := .glo "_law_same") rfl), d__law_same.kp, d__law_same.bindsN (fun _ _ _ _ _ _ us hl => match us, hl with | [_, _], _ => rfl)⟩,
    ⟨He.glo_ok X Gm (c1.fact 14 (f := .glo "_law_odd") rfl), d__law_odd.kp, d__law_odd.bindsN (fun _ _ _ _ _ _ us hl => match us, hl with | [_], _ => rfl)⟩,
    ⟨He.glo_ok X Gm (c1.fact 15 (f := .glo "_law_common") rfl), d__law_common.kp, d__law_common.bindsN (fun _ _ _ _ _ _ us hl => match us, hl with | [_, _], _ => rfl)⟩,
    ⟨He.glo_ok X Gm (c1.fact 16 (f := .glo "_law_bits") rfl), d__law_bits.kp, d__law_bits.bindsN (fun _ _ _ _ _ _ us hl => match us, hl with | [_, _], _ => rfl)⟩,
    ⟨He.glo_ok X Gm (c1.fact 17 (f := .glo "_law_needed") rfl), d__law_needed.kp, d__law_needed.bindsN (fun _ _ _ _ _ _ us hl => match us, hl with | [_], _ => rfl)⟩,
    ⟨He.glo_ok X Gm (c1.fact 18 (f := .glo "_law_drawn") rfl), d__law_drawn.kp, d__law_drawn.bindsN (fun _ _ _ _ _ _ us hl => match us, hl with | [_, _, _, _], _ => rfl)⟩,
    ⟨He.glo_ok X Gm (c1.fact 19 (f := .glo "_law_marks") rfl), d__law_marks.kp, d__law_marks.bindsN (fun _ _ _ _ _ _ us hl => match us, hl with | [_, _], _ => rfl)⟩,
    ⟨He.glo_ok X Gm (c1.fact 20 (f := .glo "_law_two") rfl), d__law_two.kp, d__law_two.bindsN (fun _ _ _ _ _ _ us hl => match us, hl with | [_, _, _], _ => rfl)⟩,
    ⟨He.glo_ok X Gm (c1.fact 21 (f := .glo "_law_word") rfl), d__law_word.kp, d__law_word.bindsN (fun _ _ _ _ _ _ us hl => match us, hl with | [_], _ => rfl)⟩,
    ⟨He.glo_ok X Gm (c1.fact 22 (f := .glo "law") rfl), d_law.kp, d_law.bindsN (fun _ _ _ _ _ _ us hl => match us, hl with | [_], _ => rfl)⟩,
    d_BadCoins,
    He.glo_ok X Gm (c1.fact 23 (f := .glo "CoinError") rfl),
    He.glo_ok X Gm (c1.fact 24 (f := .glo "BadNumber") rfl),
    He.glo_ok X Gm (c1.fact 25 (f := .glo "NoSystem") rfl),
    He.glo_ok X Gm (c1.fact 26 (f := .glo "BadCoins") rfl),
    He.glo_ok X Gm (c1.fact 27 (f := .glo "System") rfl),
    He.free_ok X Gm (c1.fact 28 (f := .free "isinstance") rfl),
    He.free_ok X Gm (c1.fact 29 (f := .free "int") rfl),
    He.free_ok X Gm (c1.fact 30 (f := .free "bool") rfl),
    He.free_ok X Gm (c1.fact 31 (f := .free "abs") rfl),
    He.free_ok X Gm (c1.fact 32 (f := .free "range") rfl),
    He.free_ok X Gm (c1.fact 33 (f := .free "tuple") rfl),
    He.free_ok X Gm (c1.fact 34 (f := .free "len") rfl),
    He.free_ok X Gm (c1.fact 35 (f := .free "enumerate") rfl),
    He.free_ok X Gm (c1.fact 36 (f := .free "min") rfl),
    He.free_ok X Gm (c1.fact 37 (f := .free "sorted") rfl),
    He.free_ok X Gm (c1.fact 38 (f := .free "list") rfl),
    He.free_ok X Gm (c1.fact 39 (f := .free "sum") rfl),
    He.free_ok X Gm (c1.fact 40 (f := .free "zip") rfl),
    He.free_ok X Gm (c1.fact 41 (f := .free "all") rfl),
    He.free_ok X Gm (c1.fact 42 (f := .free "str") rfl),
    He.free_ok X Gm (c1.fact 43 (f := .free "any") rfl),
    He.free_ok X Gm (c1.fact 44 (f := .free "max") rfl),
    He.free_ok X Gm (c1.fact 45 (f := .free "ValueError") rfl),
    He.int_ok X Gm (c1.fact 46 (f := .int "MOST_COINS" 700) rfl),
    He.int_ok X Gm (c1.fact 47 (f := .int "MOST_COIN" 1000000) rfl),
    He.int_ok X Gm (c1.fact 48 (f := .int "MOST_LEAST" 2000) rfl),
    He.int_ok X Gm (c1.fact 49 (f := .int "MOST_GREAT" 2000) rfl),
    d_System___init__,
    d_System___init__.bindsN (fun _ _ _ _ _ _ us hl => match us, hl with | [_, _], _ => rfl),
    He.mkr_ok (c1.fact 52 (f := .mkr "System") rfl),
    exB_at c.more 1 rfl,
    exB_at c.more 2 rfl,
    exB_at c.more 3 rfl,
    exB_at c.more 4 rfl,
    ⟨fun _ hc => (exnsB_okA (ys := xi) (exB_at c.more 0 rfl) hc).1, fun _ hc => (exnsB_okA (ys := xi) (exB_at c.more 0 rfl) hc).2⟩,
    exB_at c.more 5 rfl,
    exB_at c.more 6 rfl,
    exB_at c.more 7 rfl,
    exB_at c.more 8 rfl,
    c1.fact 50 (f := .exc "NoSystem") rfl,
    c1.fact 51 (f := .exc "BadNumber") rfl,
    ⟨exB_at c.more 9 rfl, of_decide_eq_true (exB_at c.more 10 rfl), of_decide_eq_true (exB_at c.more 11 rfl), of_decide_eq_true (exB_at c.more 12 rfl)⟩,
    of_decide_eq_true (exB_at c.more 13 rfl)⟩
abbrev R : PySem.W.OpenRow := PySem.W.OpenLaw.row PySem.Challenge.rw_paidornot_k53_whole_marks_of_order
abbrev hk : PySem.W.Hook := He.hookX 5 fa fn [] tf exAll
def ob (s : PySem.W.SharedT) : He.AlX := He.obsX 5 fa fn [] tf exAll (HandSHeadRun.getT s)
theorem ob_eq (s : PySem.W.SharedT) : ob s = hk.obs s.abs := He.obsX_eq (HandSHeadRun.getT_eq s)
def looseN : List PySem.Str := [("is_integer" : PySem.Str), ("is_within" : PySem.Str), ("common" : PySem.Str), ("common_of" : PySem.Str), ("CoinError" : PySem.Str), ("BadNumber" : PySem.Str), ("NoSystem" : PySem.Str), ("BadCoins" : PySem.Str), ("MOST_COIN" : PySem.Str), ("MOST_LEAST" : PySem.Str), ("MOST_COINS" : PySem.Str), ("round_up" : PySem.Str), ("built" : PySem.Str), ("check_coins" : PySem.Str), ("System" : PySem.Str), ("check_system" : PySem.Str), ("pays_of" : PySem.Str), ("MOST_GREAT" : PySem.Str), ("order_mark" : PySem.Str), ("_law_hand" : PySem.Str), ("_law_draw" : PySem.Str), ("_law_any" : PySem.Str), ("_law_same" : PySem.Str), ("_law_odd" : PySem.Str), ("_law_common" : PySem.Str), ("_law_bits" : PySem.Str), ("_law_needed" : PySem.Str), ("_law_drawn" : PySem.Str), ("_law_marks" : PySem.Str), ("_law_two" : PySem.Str), ("_law_word" : PySem.Str)]
theorem run (w : World) : HandSHeadRun.RunEq R (PySem.W.view R.prog [36]) hk ob 4000 looseN w := by
  intro os
  kernel_rfl
theorem law_at (N : Nat) (WF : Nat) (hlaw : ∀ ns : List Int, ns.length ≤ 63 → ∃ outs, callD tb WF N 25 [(false, .fls (ns.map D.int))] = .ok (.bl true) false outs) (w : World) (mg : Str → Option Value) (fa0 : Addr) (h : Heap) (Yh : hk.says w h) (Gm : h.Ns mainGlobals mg) (hfa : mg ("law" : Str) = some (.ref fa0)) :
    ∃ K : PySem.W.Frag, K.In h ∧ LamX.LawAtS PySem.Challenge.rw_paidornot_k53_whole_marks_of_order w K (L2.CX PySem.Challenge.rw_paidornot_k53_whole_marks_of_order.prog w) (4 * N + 1) 63 "script" mg fa0 h := by
  obtain ⟨K, KX, c⟩ := Yh
  have F := fs_of KX Gm c
  have e := hfa.symm.trans F.g_law.hm
  cases e
  refine ⟨K, KX, fdOf K ("law", none), tf.map (He.cT K), spF (Yw K) (callD tb WF N 25), fun p hp => ?_, fun p hp => ?_, fun p hp => ?_, fun s u => ?_, fun H a ns hl _ hT hS => ?_, fun base _ _ TB => ?_⟩
  · obtain ⟨q, hq, rfl⟩ := List.mem_map.mp hp; exact c.empty q hq
  · obtain ⟨q, hq, rfl⟩ := List.mem_map.mp hp; exact c.out q hq
  · obtain ⟨q, hq, rfl⟩ := List.mem_map.mp hp; exact PySem.W.codeHd_of_K KX (c.hd q hq)
  · exact F.d_law.bindsA (ps := ["script"]) (fun _ _ _ _ _ _ us hl => match us, hl with | [_], _ => rfl) s [u] rfl
  · obtain ⟨outs, ho⟩ := hlaw ns hl
    refine law_sp ho hS fun p hp => LamX.TabS.nil ?_
    have : p.1 ∈ (tf.map (He.cT K)).map (·.2) := by
      have h2 : (tT K).map (·.1) = (tf.map (He.cT K)).map (·.2) := rfl
      rw [← h2]; exact List.mem_map.mpr ⟨p, hp, rfl⟩
    obtain ⟨q, hq, e⟩ := List.mem_map.mp this
    rw [← e]; exact hT q hq
  · exact (all F (fun i {p} hp => TB (He.cT K p) (List.mem_map.mpr ⟨p, List.mem_of_getElem? hp, rfl⟩)) N).f_law
/-- the law, from the plain law -/
theorem from_plain (N : Nat) (WF : Nat) (hN : N ≤ 50) (hlaw : ∀ ns : List Int, ns.length ≤ 63 → ∃ outs, callD tb WF N 25 [(false, .fls (ns.map D.int))] = .ok (.bl true) false outs) : PySem.Challenge.rw_paidornot_k53_whole_marks_of_order.Holds := by
  w_on; o_law
  refine HandSHeadRun.head_any (r := R) (q := PySem.W.view R.prog [36]) (H := hk) (ob := ob) (M := 4000) (loose := looseN) (d := HandSHeadRun.topDef R.prog 36) (kwd := []) ob_eq
    (by kernel_rfl) (fun s => by kernel_rfl) run (by kernel_rfl) (by kernel_rfl) (by kernel_rfl) (by rfl) (by first | assumption | decide +kernel) (by decide +kernel) ⟨rfl, rfl, rfl, rfl, rfl, by decide +kernel⟩ ?hw ?hc
  case hw => w_witness2
  case hc =>
    refine LamX.walk_ofTsE (l := PySem.Challenge.rw_paidornot_k53_whole_marks_of_order) (n := 63) (k := 4 * N + 1) (x := "script") (CX := fun w => L2.CX PySem.Challenge.rw_paidornot_k53_whole_marks_of_order.prog w) rfl (by decide) (by kernel_rfl) ⟨rfl, by have h1 : callerA.depth ≤ 301 := (by decide); have h2 : 1000 ≤ recursionLimit := (by decide); omega, by have h1 : callerA.units ≤ 100 := (by decide); have h2 : 9900 ≤ cLine := (by decide); omega⟩ ?F fun _ _ _ _ _ z => by
      obtain ⟨_, _, _, _, _, _, _, _, _, _, _, _, q⟩ := z; exact q.elim
    intro w mg fa0 h Yh Gm hmg
    have hmg2 : mg ("law" : PySem.Str) = some (.ref fa0) := by
      have e : (HandSHeadRun.topDef R.prog 36).name = ("law" : PySem.Str) := by kernel_rfl
      rw [← e]; exact hmg
    exact law_at N WF hlaw w mg fa0 h Yh Gm hmg2
end Law

/-! L3R: the evaluator's runs in plain Lean. -/
namespace L3
open PySem PySem.Spec PyProof.Rows L2
section
variable {w : Nat} {C : Nat → List (Bool × D) → CRes} {md : Nat → List Bool} {en en' : En}
/-- e tells d and changes nothing -/
def Pe (C : Nat → List (Bool × D) → CRes) (md : Nat → List Bool) (en : En) (e : E) (d : D) (own : Bool) : Prop := evE C md e en = .ok (d, own) en
/-- e as an argument -/
def Pa (C : Nat → List (Bool × D) → CRes) (md : Nat → List Bool) (en : En) (e : E) (d : D) : Prop := ∃ x, argOf e (evE C md e en) en = .ok x en ∧ avD en x = some d
/-- e as an argument that is kept -/
def Pk' (C : Nat → List (Bool × D) → CRes) (md : Nat → List Bool) (en : En) (e : E) (d : D) : Prop := argOf e (evE C md e en) en = .ok (.v d) en
theorem Pe.k {e : E} {d : D} {own : Bool} (h : Pe C md en e d own) (hn : ∀ i, e ≠ .pk i) : Pk' C md en e d := by
  unfold Pk'
  have h : evE C md e en = .ok (d, own) en := h
  rw [h]
  cases e <;> first | rfl | exact absurd rfl (hn _)
theorem Pk'.a {e : E} {d : D} (h : Pk' C md en e d) : Pa C md en e d := ⟨.v d, h, rfl⟩
theorem Pe.a {e : E} {d : D} {own : Bool} (h : Pe C md en e d own) (hn : ∀ i, e ≠ .pk i := by intro i z; cases z) : Pa C md en e d := (h.k hn).a
theorem pa_pk {i : Nat} {ow : Ow} {d : D} (h : en[i]? = some (some (ow, d))) : Pa C md en (.pk i) d := by
  refine ⟨.p i, ?_, ?_⟩
  · show (match en[i]? with | some (some _) => Rs.ok (Av.p i) en | _ => .bad) = _
    rw [h]
  · show (match en[i]? with | some (some (_, d)) => some d | _ => none) = _
    rw [h]
theorem pe_cst {d : D} : Pe C md en (.cst d) d false := by unfold Pe; rw [evE]
theorem pe_glb {d : D} : Pe C md en (.op (.glb d) .nil) d false := by unfold Pe; rw [evE, evA]; rfl
theorem pe_var {i : Nat} {d : D} (h : en[i]? = some (some (.sh, d))) : Pe C md en (.var i) d false := by
  unfold Pe; rw [evE, rdVar, h]
theorem pe_op1 {o : Op} {a : E} {d : D} {p : D × Bool} (ha : Pa C md en a d) (hr : o.run [d] = some p) (hk : o.keeps = false := by rfl) : Pe C md en (.op o (.cons a .nil)) p.1 p.2 := by
  obtain ⟨x, h1, h2⟩ := ha
  unfold Pe
  rw [evE_op1, h1]
  show opFin o [x] en = _
  unfold opFin
  rw [hk]
  show (match avDs en [x] with | none => Rs.bad | some ds => _) = _
  simp only [avDs, h2, hr]
theorem pe_op2 {o : Op} {a b : E} {d e : D} {p : D × Bool} (ha : Pa C md en a d) (hb : Pa C md en b e) (hr : o.run [d, e] = some p) (hk : o.keeps = false := by rfl) : Pe C md en (.op o (.cons a (.cons b .nil))) p.1 p.2 := by
  obtain ⟨x, h1, h2⟩ := ha
  obtain ⟨y, h3, h4⟩ := hb
  unfold Pe
  rw [evE_op2, h1]
  show (argOf b (evE C md b en) en).bind _ = _
  rw [h3]
  show opFin o [x, y] en = _
  unfold opFin
  rw [hk]
  show (match avDs en [x, y] with | none => Rs.bad | some ds => _) = _
  simp only [avDs, h2, h4, hr]
theorem toB_pe {e : E} {b : Bool} {own : Bool} (h : Pe C md en e (.bl b) own) : toB (evE C md e en) = .ok b en := by
  have h : evE C md e en = .ok (.bl b, own) en := h
  rw [h]; rfl
theorem pe_and {a b : E} {k : Bool} {o : Bool} {d : D} {own : Bool} (ha : Pe C md en a (.bl k) o) (ht : k = true → Pe C md en b d own) (hf : k = false → d = .bl false ∧ own = false) : Pe C md en (.and a b) d own := by
  unfold Pe
  rw [evE, toB_pe ha]
  cases k with
  | true => exact ht rfl
  | false => obtain ⟨rfl, rfl⟩ := hf rfl; rfl
theorem pe_or {a b : E} {k : Bool} {o : Bool} {d : D} {own : Bool} (ha : Pe C md en a (.bl k) o) (hf : k = false → Pe C md en b d own) (ht : k = true → d = .bl true ∧ own = false) : Pe C md en (.or a b) d own := by
  unfold Pe
  rw [evE, toB_pe ha]
  cases k with
  | false => exact hf rfl
  | true => obtain ⟨rfl, rfl⟩ := ht rfl; rfl
theorem pe_nt {a : E} {k o : Bool} (ha : Pe C md en a (.bl k) o) : Pe C md en (.nt a) (.bl (!k)) false := by
  unfold Pe
  rw [evE, toB_pe ha]
/-! ### statements -/
def Ps (w : Nat) (C : Nat → List (Bool × D) → CRes) (md : Nat → List Bool) (en : En) (s : S) (en' : En) : Prop := evS w C md s en = .ok .nx en'
theorem ps_asg {i : Nat} {e : E} {d : D} {own : Bool} (h : Pe C md en e d own) (hs : stVar i d own en = some en') : Ps w C md en (.asg (.nm i) e) en' := by
  unfold Ps
  have h : evE C md e en = .ok (d, own) en := h
  rw [evS, h]
  show (stR (stVar i d own en)).bind _ = _
  rw [hs]; rfl
theorem ps_seti {i : Nat} {v ix : E} {ow : Ow} {xs : List D} {d : D} {k : Int} {j : Nat} (hv : Pk' C md en v d) (hi : Pk' C md en ix (.int k)) (he : en[i]? = some (some (ow, .lst xs))) (ho : ow.isOwn = true) (hj : ixN xs.length k = some j) :
    Ps w C md en (.seti i v ix) (en.set i (some (ow, .lst (xs.set j d)))) := by
  unfold Ps
  have hv : argOf v (evE C md v en) en = .ok (.v d) en := hv
  have hi : argOf ix (evE C md ix en) en = .ok (.v (.int k)) en := hi
  have hm : mtAt i en = true := by unfold mtAt; rw [he]; simp [ho, mtPre]
  have hf : mtFin .seti i [.v d, .v (.int k)] en = .ok (.non, false) (en.set i (some (ow, .lst (xs.set j d)))) := by
    unfold mtFin
    simp only [vDs, he, ho, if_true, Mt.run, hj]
  rw [evS, hv]
  show (if mtAt i en = true then _ else _) = _
  rw [if_pos hm, hi]
  show (mtFin .seti i [.v d, .v (.int k)] en).bind _ = _
  rw [hf]
theorem ss_step {s : S} {ss : Ss} (h : Ps w C md en s en') : evSs w C md (.cons s ss) en = evSs w C md ss en' := by
  have h : evS w C md s en = .ok .nx en' := h
  rw [evSs_consU, h]
theorem ss_ret {e : E} {ss : Ss} {d : D} {own : Bool} (h : evE C md e en = .ok (d, own) en') : evSs w C md (.cons (.ret e) ss) en = .ok (.rt d own) en' := by
  rw [evSs_consU, evS, h]
theorem ss_if {c : E} {a b : Ss} {ss : Ss} {k o : Bool} {r : Rs Fl} (hc : Pe C md en c (.bl k) o) (h : evSs w C md (if k then a else b) en = r) : evSs w C md (.cons (.ife c a b) ss) en = r.bind fun fl en => match fl with
    | .nx => evSs w C md ss en | .br => .ok .br en | .ct => .ok .ct en | .rt d o => .ok (.rt d o) en := by
  rw [evSs_consU, evS, toB_pe hc, ← h]
  cases k <;> rfl
theorem ss_nilU : evSs w C md .nil en = .ok .nx en := by rw [evSs]
theorem pe_ix {i : Nat} {ow : Ow} {xs : List D} {k : Int} {x : D} (h0 : en[i]? = some (some (ow, .lst xs))) (hk : atI xs k = some x) : Pe C md en (.op .idx (.cons (.pk i) (.cons (.cst (.int k)) .nil))) x false := by
  have hr : Op.idx.run [.lst xs, .int k] = some (x, false) := by
    show (match atI xs k with | some d => some (d, false) | none => none) = _
    rw [hk]
  exact pe_op2 (pa_pk h0) (pe_cst.a) hr
theorem run_mod {i j : Int} (h : 0 < j) : Op.mod.run [.int i, .int j] = some (.int (i % j), false) := by
  show gd (decide (0 < j)) (.int (i % j), false) = _
  simp [gd, h]
theorem run_fdiv {i j : Int} (h : divOk i j = true) : Op.fdiv.run [.int i, .int j] = some (.int (i / j), false) := by
  show gd (divOk i j) (.int (i / j), false) = _
  simp [gd, h]
theorem run_mul {i j : Int} (h : mulOk i j = true) : Op.mul.run [.int i, .int j] = some (.int (i * j), false) := by
  show gd (mulOk i j) (.int (i * j), false) = _
  simp [gd, h]
theorem run_pow {i j : Int} (h : CPow i j) : Op.pow.run [.int i, .int j] = some (.int (i ^ j.toNat), false) := by
  show gd (decide (CPow i j)) (.int (i ^ j.toNat), false) = _
  rw [decide_eq_true h]; rfl
theorem mul_r {i j : Int} (h : -(2 ^ 64) < j ∧ j < 2 ^ 64) : mulOk i j = true := by
  unfold mulOk
  have : CMul i j := .inr h
  simp [this]
theorem mul_l {i j : Int} (h : -(2 ^ 64) < i ∧ i < 2 ^ 64) : mulOk i j = true := by
  unfold mulOk
  have : CMul i j := .inl h
  simp [this]
theorem div_s {i j : Int} (h : 0 < j ∧ j < 1073741824) : divOk i j = true := by
  unfold divOk
  have : CDiv i j := h
  simp [this]
theorem atI_nat {xs : List D} {j : Nat} {x : D} (h : xs[j]? = some x) : atI xs (j : Int) = some x := by
  have hl := lt_of_get h
  unfold atI ixN
  rw [if_pos (by omega), if_pos (by omega)]
  simpa using h
/-! ### calls -/
theorem evA_nilU : evA C md .nil en = .ok [] en := by rw [evA]
theorem evA_consU {e : E} {es : Es} {en1 en2 : En} {x : Av} {xs : List Av} (h1 : argOf e (evE C md e en) en = .ok x en1) (h2 : evA C md es en1 = .ok xs en2) : evA C md (.cons e es) en = .ok (x :: xs) en2 := by
  rw [evA_cons, h1]
  show (evA C md es en1).bind _ = _
  rw [h2]
theorem evE_callU {f : Nat} {as : Es} {avs : List Av} {en1 en2 : En} {args : List (Bool × D)} {d : D} {own : Bool} {outs : List Cell} (h1 : evA C md as en = .ok avs en1) (h2 : passA (md f) avs [] en1 = some args) (h3 : C f args = .ok d own outs) (h4 : backA avs args outs en1 = some en2) :
    evE C md (.call f as) en = .ok (d, own) en2 := by
  rw [evE, h1]
  show doCall C md f avs en1 = _
  unfold doCall
  rw [h2]
  show (match C f args with | .bad => Rs.bad | .ok d own outs => _ | .er x outs => _) = _
  rw [h3]
  show (match backA avs args outs en1 with | some en => Rs.ok (d, own) en | none => .bad) = _
  rw [h4]
theorem arg_pk {i : Nat} {c : Ow × D} (h : en[i]? = some (some c)) : argOf (.pk i) (evE C md (.pk i) en) en = .ok (.p i) en := by
  show (match en[i]? with | some (some _) => Rs.ok (Av.p i) en | _ => .bad) = _
  rw [h]
theorem arg_e {e : E} {d : D} {own : Bool} {en1 : En} (h : evE C md e en = .ok (d, own) en1) (hn : ∀ i, e ≠ .pk i := by intro i z; cases z) : argOf e (evE C md e en) en = .ok (.v d) en1 := by
  rw [h]
  cases e <;> first | rfl | exact absurd rfl (hn _)
theorem evE_opU {o : Op} {as : Es} {avs : List Av} {en1 : En} {ds : List D} {p : D × Bool} (h1 : evA C md as en = .ok avs en1) (h2 : (if o.keeps then vDs avs else avDs en1 avs) = some ds) (h3 : o.run ds = some p) : evE C md (.op o as) en = .ok p en1 := by
  rw [evE_op, h1]
  show opFin o avs en1 = _
  unfold opFin
  rw [h2]
  show (match o.run ds with | some p => Rs.ok p en1 | none => .bad) = _
  rw [h3]
theorem ps_asgU {i : Nat} {e : E} {d : D} {own : Bool} {en1 : En} (h : evE C md e en = .ok (d, own) en1) (hs : stVar i d own en1 = some en') : Ps w C md en (.asg (.nm i) e) en' := by
  unfold Ps
  rw [evS, h]
  show (stR (stVar i d own en1)).bind _ = _
  rw [hs]; rfl
theorem ps_asgT {is : List Nat} {e : E} {ds : List D} {en1 : En} (h : evE C md e en = .ok (.tup ds, false) en1) (hs : stVars is ds en1 = some en') : Ps w C md en (.asg (.tp is) e) en' := by
  unfold Ps
  rw [evS, h]
  show (stR (stVars is ds en1)).bind _ = _
  rw [hs]; rfl
theorem toB_ev {e : E} {b own : Bool} {en1 : En} (h : evE C md e en = .ok (.bl b, own) en1) : toB (evE C md e en) = .ok b en1 := by rw [h]; rfl
theorem ss_ifU {c : E} {a b : Ss} {ss : Ss} {k : Bool} {en1 : En} {r : Rs Fl} (hc : toB (evE C md c en) = .ok k en1) (h : evSs w C md (if k then a else b) en1 = r) : evSs w C md (.cons (.ife c a b) ss) en = r.bind fun fl en => match fl with
    | .nx => evSs w C md ss en | .br => .ok .br en | .ct => .ok .ct en | .rt d o => .ok (.rt d o) en := by
  rw [evSs_consU, evS, hc, ← h]
  cases k <;> rfl
theorem or_f {a b : E} {en1 : En} {r : Rs (D × Bool)} (h1 : toB (evE C md a en) = .ok false en1) (h2 : evE C md b en1 = r) : evE C md (.or a b) en = r := by
  rw [evE, h1, ← h2]; rfl
theorem nt_ev {a : E} {k : Bool} {en1 : En} (h : toB (evE C md a en) = .ok k en1) : evE C md (.nt a) en = .ok (.bl (!k), false) en1 := by
  rw [evE, h]
/-! ### a comprehension over numbers, its element plain -/
theorem loopC_map {vs : List Nat} {tg : Tg} {c : En → Rs Bool} {f : En → Rs (D × Bool)} {g : D → D} {en0 : En} : ∀ (items acc : List D), (∀ d ∈ items, ∃ en1, stTg tg d false en0 = some en1 ∧ c en1 = .ok true en1 ∧ (∃ own, f en1 = .ok (g d, own) en1) ∧ wipeE en1 vs = en0) →
    acc.length + items.length ≤ sizeLine → loopC vs tg c f items acc en0 = .ok (acc ++ items.map g) en0
  | [], acc, _, _ => by simp [loopC]
  | d :: items, acc, h, hl => by
    obtain ⟨en1, h1, h2, ⟨own, h3⟩, h4⟩ := h d List.mem_cons_self
    simp only [List.length_cons] at hl
    unfold loopC
    rw [h1]
    show (noEr (c en1)).bind _ = _
    rw [h2]
    show (noEr (f en1)).bind _ = _
    rw [h3]
    show (if decide (acc.length < sizeLine) = true then loopC vs tg c f items (acc ++ [g d]) (wipeE en1 vs) else .bad) = _
    rw [decide_eq_true (by omega), if_pos rfl, h4, loopC_map items _ (fun d hd => h d (List.mem_cons_of_mem _ hd)) (by simp; omega)]
    simp
/-! ### loops -/
theorem loopF_inv {f : D → En → Rs Fl} (I : En → Prop) : ∀ (items : List D) (en : En), I en → (∀ d ∈ items, ∀ en, I en → ∃ en', f d en = .ok .nx en' ∧ I en') → ∃ en', loopF f items en = .ok .nx en' ∧ I en'
  | [], en, hi, _ => ⟨en, by unfold loopF; rfl, hi⟩
  | d :: items, en, hi, h => by
    obtain ⟨en1, h1, h2⟩ := h d List.mem_cons_self en hi
    obtain ⟨en2, h3, h4⟩ := loopF_inv I items en1 h2 fun d hd => h d (List.mem_cons_of_mem _ hd)
    refine ⟨en2, ?_, h4⟩
    unfold loopF
    rw [h1]
    exact h3
end
end L3

/-! L3S: the hand that all laws draw from. -/
namespace L3
open PySem PySem.Spec PyProof.Rows L2
structure Dk where
  k1 : Int
  k2 : Int
  k3 : Int
  m1 : Int
  k4 : Int
  k5 : Int
  m2 : Int
  k6 : Int
  k7 : Int
  m3 : Int
  k8 : Int
  k9 : Int
  m4 : Int
def fnDrawX (c : Dk) (t : E) : Fn := ⟨2, 5, [true, true], (.cons (.ife (.and (.op .eq (.cons (.op .idx (.cons (.pk 0) (.cons (.cst (.int 2)) .nil))) (.cons (.cst (.int 0)) .nil))) (.op .lt (.cons (.op .idx (.cons (.pk 0) (.cons (.cst (.int 1)) .nil))) (.cons (.op .len (.cons (.op .idx (.cons (.pk 0) (.cons (.cst (.int 0)) .nil))) .nil)) .nil)))) (.cons (.asg (.nm 2) (.op .idx (.cons (.op .idx (.cons (.pk 0) (.cons (.cst (.int 0)) .nil))) (.cons (.op .idx (.cons (.pk 0) (.cons (.cst (.int 1)) .nil))) .nil)))) (.cons (.seti 0 (.op .add (.cons (.op .idx (.cons (.pk 0) (.cons (.cst (.int 1)) .nil))) (.cons (.cst (.int 1)) .nil))) (.cst (.int 1))) (.cons (.seti 0 (.op .mod (.cons (.op .int (.cons (.op .add (.cons (.op .add (.cons (.op .mul (.cons (.op .idx (.cons (.pk 0) (.cons (.cst (.int 3)) .nil))) (.cons (.cst (.int c.k1)) .nil))) (.cons t .nil))) (.cons (.cst (.int c.k3)) .nil))) .nil)) (.cons (.cst (.int c.m1)) .nil))) (.cst (.int 3))) (.cons (.ife (.op .ge (.cons (.pk 2) (.cons (.op .pow (.cons (.cst (.int 10)) (.cons (.cst (.int 18)) .nil))) .nil))) (.cons (.seti 0 (.var 2) (.cst (.int 2))) .nil) .nil) .nil)))) .nil) (.cons (.ife (.op .gt (.cons (.op .idx (.cons (.pk 0) (.cons (.cst (.int 2)) .nil))) (.cons (.cst (.int 0)) .nil))) (.cons (.asg (.nm 3) (.op .mod (.cons (.op .int (.cons (.op .idx (.cons (.pk 0) (.cons (.cst (.int 2)) .nil))) .nil)) (.cons (.pk 1) .nil)))) (.cons (.seti 0 (.op .fdiv (.cons (.op .idx (.cons (.pk 0) (.cons (.cst (.int 2)) .nil))) (.cons (.pk 1) .nil))) (.cst (.int 2))) (.cons (.ret (.mv 3)) .nil))) .nil) (.cons (.seti 0 (.op .add (.cons (.op .idx (.cons (.pk 0) (.cons (.cst (.int 4)) .nil))) (.cons (.cst (.int 1)) .nil))) (.cst (.int 4))) (.cons (.asg (.nm 4) (.op .mod (.cons (.op .int (.cons (.op .mul (.cons (.op .int (.cons (.op .add (.cons (.op .idx (.cons (.pk 0) (.cons (.cst (.int 3)) .nil))) (.cons (.op .mul (.cons (.cst (.int c.k4)) (.cons (.op .idx (.cons (.pk 0) (.cons (.cst (.int 4)) .nil))) .nil))) .nil))) .nil)) (.cons (.cst (.int c.k5)) .nil))) .nil)) (.cons (.cst (.int c.m2)) .nil)))) (.cons (.asg (.nm 4) (.op .mod (.cons (.op .int (.cons (.op .mul (.cons (.pk 4) (.cons (.op .add (.cons (.op .fdiv (.cons (.pk 4) (.cons (.cst (.int c.k6)) .nil))) (.cons (.cst (.int c.k7)) .nil))) .nil))) .nil)) (.cons (.cst (.int c.m3)) .nil)))) (.cons (.asg (.nm 4) (.op .mod (.cons (.op .int (.cons (.op .mul (.cons (.pk 4) (.cons (.op .add (.cons (.op .fdiv (.cons (.pk 4) (.cons (.cst (.int c.k8)) .nil))) (.cons (.cst (.int c.k9)) .nil))) .nil))) .nil)) (.cons (.cst (.int c.m4)) .nil)))) (.cons (.ret (.op .mod (.cons (.op .int (.cons (.op .fdiv (.cons (.pk 4) (.cons (.cst (.int 16)) .nil))) .nil)) (.cons (.pk 1) .nil)))) .nil)))))))⟩
@[reducible] def fnDraw (c : Dk) : Fn := fnDrawX c (.op .mul (.cons (.pk 2) (.cons (.cst (.int c.k2)) .nil)))
/-- the cell itself is mixed in -/
@[reducible] def fnDrawP (c : Dk) : Fn := fnDrawX c (.pk 2)
/-- what is mixed in is a number -/
def CellT (t : E) : Prop := ∀ (C : Nat → List (Bool × D) → CRes) (md : Nat → List Bool) (en : En) (x : Int), en[2]? = some (some (.sh, .int x)) → ∃ y : Int, Pa C md en t (.int y)
structure Dk.Ok (c : Dk) : Prop where
  k1 : -(2 ^ 64) < c.k1 ∧ c.k1 < 2 ^ 64
  k2 : -(2 ^ 64) < c.k2 ∧ c.k2 < 2 ^ 64
  m1 : 0 < c.m1
  k4 : -(2 ^ 64) < c.k4 ∧ c.k4 < 2 ^ 64
  k5 : -(2 ^ 64) < c.k5 ∧ c.k5 < 2 ^ 64
  m2 : 0 < c.m2 ∧ c.m2 < 2 ^ 64
  k6 : 0 < c.k6 ∧ c.k6 < 1073741824
  m3 : 0 < c.m3 ∧ c.m3 < 2 ^ 64
  k8 : 0 < c.k8 ∧ c.k8 < 1073741824
  m4 : 0 < c.m4
theorem cellP : CellT (.pk 2) := fun C md en x h => ⟨x, pa_pk h⟩
theorem cellM {k : Dk} (hk : k.Ok) : CellT (.op .mul (.cons (.pk 2) (.cons (.cst (.int k.k2)) .nil))) := fun C md en x h => ⟨x * k.k2, (pe_op2 (pa_pk h) pe_cst.a (run_mul (mul_r hk.k2)) : Pe C md en _ _ _).a⟩
def hand (cells : List Int) (a b c d : Int) : D := .lst [.lst (cells.map D.int), .int a, .int b, .int c, .int d]
section
variable {w : Nat} {C : Nat → List (Bool × D) → CRes} {md : Nat → List Bool} {k : Dk} {cells : List Int} {a b c d m : Int}
theorem ss_bind {s : S} {ss : Ss} {en : En} : evSs w C md (.cons s ss) en = (evS w C md s en).bind fun fl en => match fl with
    | .nx => evSs w C md ss en | .br => .ok .br en | .ct => .ok .ct en | .rt d o => .ok (.rt d o) en := evSs_consU w C md s ss en
/-- the first half: a cell is taken -/
theorem draw1 (hk : k.Ok) {t : E} (ht : CellT t) {c1 : E} {s1 : Ss} {r1 : Ss} (hbody : (fnDrawX k t).body = .cons (.ife c1 s1 .nil) r1) (hc : ∀ x ∈ cells, 0 ≤ x) (ha : 0 ≤ a) (hb : 0 ≤ b) :
    ∃ a' b' c' x, 0 ≤ a' ∧ 0 ≤ b' ∧ evSs w C md (fnDrawX k t).body [some (.brw, hand cells a b c d), some (.sh, .int m), none, none, none] = evSs w C md r1 [some (.brw, hand cells a' b' c' d), some (.sh, .int m), x, none, none] := by
  rw [hbody]
  cases hbody
  let en : En := [some (.brw, hand cells a b c d), some (.sh, .int m), none, none, none]
  have h0 : en[0]? = some (some (.brw, hand cells a b c d)) := rfl
  have e1 : Pe C md en (.op .eq (.cons (.op .idx (.cons (.pk 0) (.cons (.cst (.int 2)) .nil))) (.cons (.cst (.int 0)) .nil))) (.bl (b == 0)) false :=
    pe_op2 (p := (.bl (b == 0), false)) (pe_ix (x := .int b) h0 rfl).a pe_cst.a rfl
  have eL : Pe C md en (.op .len (.cons (.op .idx (.cons (.pk 0) (.cons (.cst (.int 0)) .nil))) .nil)) (.int cells.length) false := by
    have := pe_op1 (C := C) (md := md) (o := .len) (p := (.int (cells.map D.int).length, false)) (pe_ix (C := C) (md := md) (k := 0) (x := .lst (cells.map D.int)) h0 rfl).a rfl
    rw [List.length_map] at this
    exact this
  have e2 : Pe C md en (.op .lt (.cons (.op .idx (.cons (.pk 0) (.cons (.cst (.int 1)) .nil))) (.cons (.op .len (.cons (.op .idx (.cons (.pk 0) (.cons (.cst (.int 0)) .nil))) .nil)) .nil))) (.bl (decide (a < cells.length))) false :=
    pe_op2 (p := (.bl (decide (a < cells.length)), false)) (pe_ix (x := .int a) h0 rfl).a eL.a rfl
  have ec : Pe C md en (.and (.op .eq (.cons (.op .idx (.cons (.pk 0) (.cons (.cst (.int 2)) .nil))) (.cons (.cst (.int 0)) .nil))) (.op .lt (.cons (.op .idx (.cons (.pk 0) (.cons (.cst (.int 1)) .nil))) (.cons (.op .len (.cons (.op .idx (.cons (.pk 0) (.cons (.cst (.int 0)) .nil))) .nil)) .nil)))) (.bl ((b == 0) && decide (a < cells.length))) false := by
    refine pe_and e1 (fun h => ?_) (fun h => ?_)
    · rw [h]; exact e2
    · rw [h]; exact ⟨rfl, rfl⟩
  by_cases hcond : ((b == 0) && decide (a < cells.length)) = true
  · obtain ⟨hb0, hal⟩ := Bool.and_eq_true_iff.mp hcond
    have hb0 : b = 0 := by simpa using hb0
    have hal : a < cells.length := of_decide_eq_true hal
    obtain ⟨j, rfl⟩ : ∃ j : Nat, a = j := ⟨a.toNat, by omega⟩
    have hj : j < cells.length := by omega
    have hat : atI (cells.map D.int) (j : Int) = some (.int cells[j]) := atI_nat (by rw [List.getElem?_map, List.getElem?_eq_getElem hj]; rfl)
    have hcell : 0 ≤ cells[j] := hc _ (List.getElem_mem _)
    -- cell = hand[0][hand[1]]
    let en1 : En := [some (.brw, hand cells j b c d), some (.sh, .int m), some (.sh, .int cells[j]), none, none]
    let en2 : En := [some (.brw, hand cells (j + 1) b c d), some (.sh, .int m), some (.sh, .int cells[j]), none, none]
    obtain ⟨yy, p2⟩ := ht C md [some (.brw, hand cells (j + 1) b c d), some (.sh, .int m), some (.sh, .int cells[j]), none, none] cells[j] rfl
    let en3 : En := [some (.brw, hand cells (j + 1) b ((c * k.k1 + yy + k.k3) % k.m1) d), some (.sh, .int m), some (.sh, .int cells[j]), none, none]
    let en4 : En := [some (.brw, hand cells (j + 1) cells[j] ((c * k.k1 + yy + k.k3) % k.m1) d), some (.sh, .int m), some (.sh, .int cells[j]), none, none]
    have s1 : Ps w C md en (.asg (.nm 2) (.op .idx (.cons (.op .idx (.cons (.pk 0) (.cons (.cst (.int 0)) .nil))) (.cons (.op .idx (.cons (.pk 0) (.cons (.cst (.int 1)) .nil))) .nil)))) en1 :=
      ps_asg (pe_op2 (p := (.int cells[j], false)) (pe_ix (x := .lst (cells.map D.int)) h0 rfl).a (pe_ix (x := .int j) h0 rfl).a (by
        show (match atI (cells.map D.int) (j : Int) with | some d => some (d, false) | none => none) = _
        rw [hat])) rfl
    -- hand[1] = hand[1] + 1
    have f0 : en1[0]? = some (some (.brw, hand cells j b c d)) := rfl
    have s2 : Ps w C md en1 (.seti 0 (.op .add (.cons (.op .idx (.cons (.pk 0) (.cons (.cst (.int 1)) .nil))) (.cons (.cst (.int 1)) .nil))) (.cst (.int 1))) en2 :=
      ps_seti (k := 1) (j := 1) ((pe_op2 (p := (.int (j + 1), false)) (pe_ix (x := .int j) f0 rfl).a pe_cst.a rfl).k (by intro i z; cases z)) (pe_cst.k (by intro i z; cases z)) f0 rfl rfl
    -- hand[3] = int(hand[3] * k1 + cell * k2 + k3) % m1
    have g0 : en2[0]? = some (some (.brw, hand cells (j + 1) b c d)) := rfl
    have g2 : en2[2]? = some (some (.sh, .int cells[j])) := rfl
    have p1 : Pe C md en2 (.op .mul (.cons (.op .idx (.cons (.pk 0) (.cons (.cst (.int 3)) .nil))) (.cons (.cst (.int k.k1)) .nil))) (.int (c * k.k1)) false := pe_op2 (pe_ix (x := .int c) g0 rfl).a pe_cst.a (run_mul (mul_r hk.k1))
    have p3 := pe_op2 (o := .add) (p := (.int (c * k.k1 + yy), false)) p1.a p2 rfl
    have p4 := pe_op2 (o := .add) (p := (.int (c * k.k1 + yy + k.k3), false)) (p3 : Pe C md en2 _ _ _).a (pe_cst (d := .int k.k3)).a rfl
    have p5 := pe_op1 (o := .int) (p := (.int (c * k.k1 + yy + k.k3), false)) (p4 : Pe C md en2 _ _ _).a rfl
    have p6 := pe_op2 (o := .mod) (p5 : Pe C md en2 _ _ _).a (pe_cst (d := .int k.m1)).a (run_mod hk.m1)
    have s3 : Ps w C md en2 (.seti 0 _ (.cst (.int 3))) en3 := ps_seti (k := 3) (j := 3) ((p6 : Pe C md en2 _ _ _).k (by intro i z; cases z)) (pe_cst.k (by intro i z; cases z)) g0 rfl rfl
    -- if cell >= 10 ** 18: hand[2] = cell
    have q0 : en3[0]? = some (some (.brw, hand cells (j + 1) b ((c * k.k1 + yy + k.k3) % k.m1) d)) := rfl
    have q2 : en3[2]? = some (some (.sh, .int cells[j])) := rfl
    have pp : Pe C md en3 (.op .pow (.cons (.cst (.int 10)) (.cons (.cst (.int 18)) .nil))) (.int (10 ^ 18)) false := pe_op2 (p := (.int ((10 : Int) ^ (18 : Int).toNat), false)) pe_cst.a pe_cst.a (run_pow (by decide))
    have pg : Pe C md en3 (.op .ge (.cons (.pk 2) (.cons (.op .pow (.cons (.cst (.int 10)) (.cons (.cst (.int 18)) .nil))) .nil))) (.bl (decide (10 ^ 18 ≤ cells[j]))) false := pe_op2 (p := (.bl (decide (10 ^ 18 ≤ cells[j])), false)) (pa_pk q2) pp.a rfl
    have s4 : Ps w C md en3 (.seti 0 (.var 2) (.cst (.int 2))) en4 := ps_seti (k := 2) (j := 2) ((pe_var q2).k (by intro i z; cases z)) (pe_cst.k (by intro i z; cases z)) q0 rfl rfl
    by_cases h18 : (10 : Int) ^ 18 ≤ cells[j]
    · have e4 := ss_if (w := w) (a := .cons (.seti 0 (.var 2) (.cst (.int 2))) .nil) (b := .nil) (ss := .nil) pg (r := .ok .nx en4) (by rw [decide_eq_true h18, if_pos rfl]; exact (ss_step s4).trans ss_nilU)
      have e4 := e4.trans ss_nilU
      have e5 := (ss_step s1).trans ((ss_step s2).trans ((ss_step s3).trans e4))
      exact ⟨j + 1, cells[j], (c * k.k1 + yy + k.k3) % k.m1, _, by omega, hcell, (ss_if (r := .ok .nx en4) ec (by rw [if_pos hcond]; exact e5)).trans rfl⟩
    · have e4 := ss_if (w := w) (a := .cons (.seti 0 (.var 2) (.cst (.int 2))) .nil) (b := .nil) (ss := .nil) pg (r := .ok .nx en3) (by rw [decide_eq_false h18, if_neg (by decide)]; exact ss_nilU)
      have e4 := e4.trans ss_nilU
      have e5 := (ss_step s1).trans ((ss_step s2).trans ((ss_step s3).trans e4))
      exact ⟨j + 1, b, (c * k.k1 + yy + k.k3) % k.m1, _, by omega, hb, (ss_if (r := .ok .nx en3) ec (by rw [if_pos hcond]; exact e5)).trans rfl⟩
  · exact ⟨a, b, c, none, ha, hb, (ss_if (r := .ok .nx en) ec (by rw [if_neg hcond]; exact ss_nilU)).trans rfl⟩
theorem pe_mv {en : En} {i : Nat} {d : D} (h : en[i]? = some (some (.sh, d))) : evE C md (.mv i) en = .ok (d, false) en := by
  rw [evE, mvVar, h]
  show rdVar i en = _
  rw [rdVar, h]
/-- the second half: a number is told -/
theorem draw2 (hk : k.Ok) {t : E} {x : Cell} {c1 : E} {s1 : Ss} {r1 : Ss} (hbody : (fnDrawX k t).body = .cons (.ife c1 s1 .nil) r1) (hb : 0 ≤ b) (hm : 0 < m) (hm2 : ∀ b, divOk b m = true) :
    ∃ b' d' r y z, 0 ≤ b' ∧ 0 ≤ r ∧ r < m ∧ evSs w C md r1 [some (.brw, hand cells a b c d), some (.sh, .int m), x, none, none] = .ok (.rt (.int r) false) [some (.brw, hand cells a b' c d'), some (.sh, .int m), x, y, z] := by
  cases hbody
  let en : En := [some (.brw, hand cells a b c d), some (.sh, .int m), x, none, none]
  have h0 : en[0]? = some (some (.brw, hand cells a b c d)) := rfl
  have h1 : en[1]? = some (some (.sh, .int m)) := rfl
  have e1 : Pe C md en (.op .gt (.cons (.op .idx (.cons (.pk 0) (.cons (.cst (.int 2)) .nil))) (.cons (.cst (.int 0)) .nil))) (.bl (decide (0 < b))) false :=
    pe_op2 (p := (.bl (decide (0 < b)), false)) (pe_ix (x := .int b) h0 rfl).a pe_cst.a rfl
  by_cases hb0 : 0 < b
  · let en1 : En := [some (.brw, hand cells a b c d), some (.sh, .int m), x, some (.sh, .int (b % m)), none]
    let en2 : En := [some (.brw, hand cells a (b / m) c d), some (.sh, .int m), x, some (.sh, .int (b % m)), none]
    have q1 := pe_op1 (C := C) (md := md) (en := en) (o := .int) (p := (.int b, false)) (pe_ix (k := 2) (x := .int b) h0 rfl).a rfl
    have q2 := pe_op2 (o := .mod) (q1 : Pe C md en _ _ _).a (pa_pk h1) (run_mod hm)
    have s1 : Ps w C md en (.asg (.nm 3) _) en1 := ps_asg q2 rfl
    have f0 : en1[0]? = some (some (.brw, hand cells a b c d)) := rfl
    have f1 : en1[1]? = some (some (.sh, .int m)) := rfl
    have q3 := pe_op2 (C := C) (md := md) (en := en1) (o := .fdiv) (pe_ix (k := 2) (x := .int b) f0 rfl).a (pa_pk f1) (run_fdiv (hm2 _))
    have s2 : Ps w C md en1 (.seti 0 _ (.cst (.int 2))) en2 := ps_seti (k := 2) (j := 2) ((q3 : Pe C md en1 _ _ _).k (by intro i z; cases z)) (pe_cst.k (by intro i z; cases z)) f0 rfl rfl
    have f3 : en2[3]? = some (some (.sh, .int (b % m))) := rfl
    have s3 := ss_ret (w := w) (ss := .nil) (pe_mv (C := C) (md := md) f3)
    have e5 := (ss_step s1).trans ((ss_step s2).trans s3)
    exact ⟨b / m, d, b % m, _, _, Int.ediv_nonneg hb (by omega), Int.emod_nonneg _ (by omega), Int.emod_lt_of_pos _ hm, (ss_if (r := .ok (.rt (.int (b % m)) false) en2) e1 (by rw [decide_eq_true hb0, if_pos rfl]; exact e5)).trans rfl⟩
  · let n1 : Int := (c + k.k4 * (d + 1)) * k.k5 % k.m2
    have n1b : 0 ≤ n1 ∧ n1 < k.m2 := ⟨Int.emod_nonneg _ (by have := hk.m2; omega), Int.emod_lt_of_pos _ hk.m2.1⟩
    let n2 : Int := n1 * (n1 / k.k6 + k.k7) % k.m3
    have n2b : 0 ≤ n2 ∧ n2 < k.m3 := ⟨Int.emod_nonneg _ (by have := hk.m3; omega), Int.emod_lt_of_pos _ hk.m3.1⟩
    let n3 : Int := n2 * (n2 / k.k8 + k.k9) % k.m4
    let en1 : En := [some (.brw, hand cells a b c (d + 1)), some (.sh, .int m), x, none, none]
    let en2 : En := [some (.brw, hand cells a b c (d + 1)), some (.sh, .int m), x, none, some (.sh, .int n1)]
    let en3 : En := [some (.brw, hand cells a b c (d + 1)), some (.sh, .int m), x, none, some (.sh, .int n2)]
    let en4 : En := [some (.brw, hand cells a b c (d + 1)), some (.sh, .int m), x, none, some (.sh, .int n3)]
    have s1 : Ps w C md en (.seti 0 (.op .add (.cons (.op .idx (.cons (.pk 0) (.cons (.cst (.int 4)) .nil))) (.cons (.cst (.int 1)) .nil))) (.cst (.int 4))) en1 :=
      ps_seti (k := 4) (j := 4) ((pe_op2 (p := (.int (d + 1), false)) (pe_ix (x := .int d) h0 rfl).a pe_cst.a rfl).k (by intro i z; cases z)) (pe_cst.k (by intro i z; cases z)) h0 rfl rfl
    have f0 : en1[0]? = some (some (.brw, hand cells a b c (d + 1))) := rfl
    have a1 := pe_op2 (C := C) (md := md) (en := en1) (o := .mul) (pe_cst (d := .int k.k4)).a (pe_ix (k := 4) (x := .int (d + 1)) f0 rfl).a (run_mul (mul_l hk.k4))
    have a2 := pe_op2 (C := C) (md := md) (en := en1) (o := .add) (p := (.int (c + k.k4 * (d + 1)), false)) (pe_ix (k := 3) (x := .int c) f0 rfl).a (a1 : Pe C md en1 _ _ _).a rfl
    have a3 := pe_op1 (o := .int) (p := (.int (c + k.k4 * (d + 1)), false)) (a2 : Pe C md en1 _ _ _).a rfl
    have a4 := pe_op2 (o := .mul) (a3 : Pe C md en1 _ _ _).a (pe_cst (d := .int k.k5)).a (run_mul (mul_r hk.k5))
    have a5 := pe_op1 (o := .int) (p := (.int ((c + k.k4 * (d + 1)) * k.k5), false)) (a4 : Pe C md en1 _ _ _).a rfl
    have a6 := pe_op2 (o := .mod) (a5 : Pe C md en1 _ _ _).a (pe_cst (d := .int k.m2)).a (run_mod hk.m2.1)
    have s2 : Ps w C md en1 (.asg (.nm 4) _) en2 := ps_asg a6 rfl
    have g4 : en2[4]? = some (some (.sh, .int n1)) := rfl
    have b1 := pe_op2 (C := C) (md := md) (en := en2) (o := .fdiv) (pa_pk g4) (pe_cst (d := .int k.k6)).a (run_fdiv (div_s hk.k6))
    have b2 := pe_op2 (o := .add) (p := (.int (n1 / k.k6 + k.k7), false)) (b1 : Pe C md en2 _ _ _).a (pe_cst (d := .int k.k7)).a rfl
    have b3 := pe_op2 (C := C) (md := md) (en := en2) (o := .mul) (pa_pk g4) (b2 : Pe C md en2 _ _ _).a (run_mul (mul_l ⟨by have := hk.m2; omega, by have := hk.m2; omega⟩))
    have b4 := pe_op1 (o := .int) (p := (.int (n1 * (n1 / k.k6 + k.k7)), false)) (b3 : Pe C md en2 _ _ _).a rfl
    have b5 := pe_op2 (o := .mod) (b4 : Pe C md en2 _ _ _).a (pe_cst (d := .int k.m3)).a (run_mod hk.m3.1)
    have s3 : Ps w C md en2 (.asg (.nm 4) _) en3 := ps_asg b5 rfl
    have i4 : en3[4]? = some (some (.sh, .int n2)) := rfl
    have c1 := pe_op2 (C := C) (md := md) (en := en3) (o := .fdiv) (pa_pk i4) (pe_cst (d := .int k.k8)).a (run_fdiv (div_s hk.k8))
    have c2 := pe_op2 (o := .add) (p := (.int (n2 / k.k8 + k.k9), false)) (c1 : Pe C md en3 _ _ _).a (pe_cst (d := .int k.k9)).a rfl
    have c3 := pe_op2 (C := C) (md := md) (en := en3) (o := .mul) (pa_pk i4) (c2 : Pe C md en3 _ _ _).a (run_mul (mul_l ⟨by have := hk.m3; omega, by have := hk.m3; omega⟩))
    have c4 := pe_op1 (o := .int) (p := (.int (n2 * (n2 / k.k8 + k.k9)), false)) (c3 : Pe C md en3 _ _ _).a rfl
    have c5 := pe_op2 (o := .mod) (c4 : Pe C md en3 _ _ _).a (pe_cst (d := .int k.m4)).a (run_mod hk.m4)
    have s4 : Ps w C md en3 (.asg (.nm 4) _) en4 := ps_asg c5 rfl
    have j4 : en4[4]? = some (some (.sh, .int n3)) := rfl
    have j1 : en4[1]? = some (some (.sh, .int m)) := rfl
    have d1 := pe_op2 (C := C) (md := md) (en := en4) (o := .fdiv) (pa_pk j4) (pe_cst (d := .int 16)).a (run_fdiv (div_s ⟨by decide, by decide⟩))
    have d2 := pe_op1 (o := .int) (p := (.int (n3 / 16), false)) (d1 : Pe C md en4 _ _ _).a rfl
    have d3 := pe_op2 (o := .mod) (d2 : Pe C md en4 _ _ _).a (pa_pk j1) (run_mod hm)
    have s5 := ss_ret (w := w) (ss := .nil) (d3 : Pe C md en4 _ _ _)
    have e5 := (ss_step s1).trans ((ss_step s2).trans ((ss_step s3).trans ((ss_step s4).trans s5)))
    exact ⟨b, d + 1, n3 / 16 % m, _, _, hb, Int.emod_nonneg _ (by omega), Int.emod_lt_of_pos _ hm, (ss_if (r := .ok .nx en) e1 (by rw [decide_eq_false hb0, if_neg (by decide)]; exact ss_nilU)).trans e5⟩
/-- a draw, below any number that may divide -/
theorem draw_okX (hk : k.Ok) {t : E} (ht : CellT t) (hc : ∀ x ∈ cells, 0 ≤ x) (ha : 0 ≤ a) (hb : 0 ≤ b) (hm : 0 < m) (hm2 : ∀ b, divOk b m = true) :
    ∃ a' b' c' d' r, 0 ≤ a' ∧ 0 ≤ b' ∧ 0 ≤ r ∧ r < m ∧ runFn w C md (fnDrawX k t) [(true, hand cells a b c d), (false, .int m)] = .ok (.int r) false [some (.brw, hand cells a' b' c' d'), none] := by
  obtain ⟨a', b', c', x, h1, h2, h3⟩ := draw1 (w := w) (C := C) (md := md) (m := m) (d := d) (c := c) (t := t) hk ht rfl hc ha hb
  obtain ⟨b2, d2, r, y, z, g1, g2, g3, g4⟩ := draw2 (w := w) (C := C) (md := md) (cells := cells) (a := a') (c := c') (d := d) (x := x) (t := t) hk rfl h2 hm hm2
  refine ⟨a', b2, c', d2, r, h1, g1, g2, g3, ?_⟩
  show resOf 2 (evSs w C md (fnDrawX k t).body [some (.brw, hand cells a b c d), some (.sh, .int m), none, none, none]) = _
  rw [h3, g4]
  rfl
/-- a draw -/
theorem draw_ok (hk : k.Ok) (hc : ∀ x ∈ cells, 0 ≤ x) (ha : 0 ≤ a) (hb : 0 ≤ b) (hm : 0 < m) (hm2 : m < 1073741824) :
    ∃ a' b' c' d' r, 0 ≤ a' ∧ 0 ≤ b' ∧ 0 ≤ r ∧ r < m ∧ runFn w C md (fnDraw k) [(true, hand cells a b c d), (false, .int m)] = .ok (.int r) false [some (.brw, hand cells a' b' c' d'), none] :=
  draw_okX hk (cellM hk) hc ha hb hm fun _ => div_s ⟨hm, hm2⟩
/-- one of some: fd the number of the def that draws -/
def fnAny (fd : Nat) : Fn := ⟨2, 2, [true, true], (.cons (.ret (.op .idx (.cons (.pk 1) (.cons (.call fd (.cons (.pk 0) (.cons (.op .len (.cons (.pk 1) .nil)) .nil))) .nil)))) .nil)⟩
theorem any_okX (hk : k.Ok) {t : E} (ht : CellT t) {fd : Nat} {some_ : List D} {C' : Nat → List (Bool × D) → CRes} (hC : C fd = runFn w C' md (fnDrawX k t)) (hmd : md fd = [true, true]) (hc : ∀ x ∈ cells, 0 ≤ x) (ha : 0 ≤ a) (hb : 0 ≤ b) (h0 : 0 < some_.length) (h1 : some_.length < 1073741824) :
    ∃ a' b' c' d' x, 0 ≤ a' ∧ 0 ≤ b' ∧ x ∈ some_ ∧ runFn w C md (fnAny fd) [(true, hand cells a b c d), (false, .lst some_)] = .ok x false [some (.brw, hand cells a' b' c' d'), none] := by
  obtain ⟨a', b', c', d', r, g1, g2, g3, g4, g5⟩ := draw_okX (w := w) (C := C') (md := md) (cells := cells) (a := a) (b := b) (c := c) (d := d) (m := (some_.length : Int)) (t := t) hk ht hc ha hb (by omega) (fun _ => div_s ⟨by omega, by omega⟩)
  obtain ⟨j, rfl⟩ : ∃ j : Nat, r = j := ⟨r.toNat, by omega⟩
  have hj : j < some_.length := by omega
  refine ⟨a', b', c', d', some_[j], g1, g2, List.getElem_mem _, ?_⟩
  let en : En := [some (.brw, hand cells a b c d), some (.sh, .lst some_)]
  let en1 : En := [some (.brw, hand cells a' b' c' d'), some (.sh, .lst some_)]
  have q0 : en[0]? = some (some (.brw, hand cells a b c d)) := rfl
  have q1 : en[1]? = some (some (.sh, .lst some_)) := rfl
  have el : evE C md (.op .len (.cons (.pk 1) .nil)) en = .ok (.int some_.length, false) en := pe_op1 (o := .len) (p := (.int some_.length, false)) (pa_pk q1) rfl
  have ec : evE C md (.call fd (.cons (.pk 0) (.cons (.op .len (.cons (.pk 1) .nil)) .nil))) en = .ok (.int j, false) en1 :=
    evE_callU (evA_consU (arg_pk q0) (evA_consU (arg_e el) evA_nilU)) (by rw [hmd]; rfl) (by rw [hC]; exact g5) rfl
  have ei : evE C md (.op .idx (.cons (.pk 1) (.cons (.call fd (.cons (.pk 0) (.cons (.op .len (.cons (.pk 1) .nil)) .nil))) .nil))) en = .ok (some_[j], false) en1 :=
    evE_opU (ds := [.lst some_, .int j]) (evA_consU (arg_pk q1) (evA_consU (arg_e ec) evA_nilU)) rfl (by
      show (match atI some_ (j : Int) with | some d => some (d, false) | none => none) = _
      rw [atI_nat (List.getElem?_eq_getElem hj)])
  show resOf 2 (evSs w C md (fnAny fd).body en) = _
  have := ss_ret (w := w) (ss := .nil) ei
  show resOf 2 (evSs w C md (.cons (.ret _) .nil) en) = _
  rw [this]
  rfl
theorem any_ok (hk : k.Ok) {fd : Nat} {some_ : List D} {C' : Nat → List (Bool × D) → CRes} (hC : C fd = runFn w C' md (fnDraw k)) (hmd : md fd = [true, true]) (hc : ∀ x ∈ cells, 0 ≤ x) (ha : 0 ≤ a) (hb : 0 ≤ b) (h0 : 0 < some_.length) (h1 : some_.length < 1073741824) :
    ∃ a' b' c' d' x, 0 ≤ a' ∧ 0 ≤ b' ∧ x ∈ some_ ∧ runFn w C md (fnAny fd) [(true, hand cells a b c d), (false, .lst some_)] = .ok x false [some (.brw, hand cells a' b' c' d'), none] :=
  any_okX hk (cellM hk) hC hmd hc ha hb h0 h1
/-- the hand at first -/
def fnHand (b0 b1 : Int) : Fn := ⟨1, 3, [true], (.cons (.asg (.nm 1) (.lc [2] (.nm 2) .seq (.cons (.slB (.pk 0) (.cst (.int 63))) .nil) (.cst (.bl true)) (.op .abs (.cons (.op .int (.cons (.pk 2) .nil)) .nil)))) (.cons (.ret (.op .lst (.cons (.var 1) (.cons (.cst (.int 0)) (.cons (.cst (.int 0)) (.cons (.op .add (.cons (.cst (.int b0)) (.cons (.op .mul (.cons (.cst (.int b1)) (.cons (.op .len (.cons (.pk 1) .nil)) .nil))) .nil))) (.cons (.cst (.int 0)) .nil))))))) .nil))⟩
def absI (i : Int) : Int := if i < 0 then -i else i
theorem hand_ok {b0 b1 : Int} {ns : List Int} (hn : ns.length ≤ 63) (hb1 : -(2 ^ 64) < b1 ∧ b1 < 2 ^ 64) :
    runFn w C md (fnHand b0 b1) [(false, .fls (ns.map D.int))] = .ok (hand (ns.map absI) 0 0 (b0 + b1 * ns.length) 0) true [none] := by
  let en : En := [some (.sh, .fls (ns.map D.int)), none, none]
  let en1 : En := [some (.sh, .fls (ns.map D.int)), some (.own, .lst ((ns.map absI).map D.int)), none]
  let en2 : En := [some (.sh, .fls (ns.map D.int)), some (.sh, .lst ((ns.map absI).map D.int)), none]
  have q0 : en[0]? = some (some (.sh, .fls (ns.map D.int))) := rfl
  have hcut : cut (ns.map D.int) none (some 63) = ns.map D.int := by
    unfold cut
    rw [HT.sIx_none, show HT.sIx (ns.map D.int).length (ns.map D.int).length (some 63) = min 63 (ns.map D.int).length from HT.sIx_nat _ _ 63]
    simp only [List.drop_zero, Nat.sub_zero]
    rw [List.take_of_length_le]
    simp only [List.length_map]; omega
  have es : evE C md (.slB (.pk 0) (.cst (.int 63))) en = .ok (.lst (ns.map D.int), true) en := by
    rw [evE, arg_pk q0]
    show (toI (evE C md (.cst (.int 63)) en)).bind (fun j en => slFin none (some j) (.p 0) en) = _
    rw [evE]
    show slFin none (some 63) (.p 0) en = _
    unfold slFin
    show (match slice3 (.fls (ns.map D.int)) none (some 63) with | some p => Rs.ok p en | none => .bad) = _
    show Rs.ok (D.lst (cut (ns.map D.int) none (some 63)), true) en = _
    rw [hcut]
  have el : loopC [2] (.nm 2) (fun en => toB (evE C md (.cst (.bl true)) en)) (fun en => evE C md (.op .abs (.cons (.op .int (.cons (.pk 2) .nil)) .nil)) en) (ns.map D.int) [] en = .ok ([] ++ (ns.map D.int).map fun d => match d with | .int i => .int (absI i) | d => d) en := by
    refine loopC_map _ _ (fun d hd => ?_) (by simp [sizeLine_eq]; omega)
    obtain ⟨i, _, rfl⟩ := List.mem_map.mp hd
    let en3 : En := [some (.sh, .fls (ns.map D.int)), none, some (.sh, .int i)]
    have q2 : en3[2]? = some (some (.sh, .int i)) := rfl
    refine ⟨en3, rfl, ?_, ⟨false, ?_⟩, rfl⟩
    · rw [evE]; rfl
    · exact pe_op1 (o := .abs) (p := (.int (absI i), false)) (pe_op1 (o := .int) (p := (.int i, false)) (pa_pk q2) rfl : Pe C md en3 _ _ _).a rfl
  have hmap : ((ns.map D.int).map fun d => match d with | .int i => .int (absI i) | d => d) = (ns.map absI).map D.int := by simp [List.map_map, Function.comp_def]
  have ec : evE C md (.lc [2] (.nm 2) .seq (.cons (.slB (.pk 0) (.cst (.int 63))) .nil) (.cst (.bl true)) (.op .abs (.cons (.op .int (.cons (.pk 2) .nil)) .nil))) en = .ok (.lst ((ns.map absI).map D.int), true) en := by
    rw [evE, evA_consU (arg_e es) evA_nilU]
    show (loopC [2] (.nm 2) _ _ (ns.map D.int) [] en).bind _ = _
    rw [el, hmap]
    rfl
  have s1 : Ps w C md en (.asg (.nm 1) _) en1 := ps_asgU ec rfl
  have f1 : en1[1]? = some (some (.own, .lst ((ns.map absI).map D.int))) := rfl
  have g1 : en2[1]? = some (some (.sh, .lst ((ns.map absI).map D.int))) := rfl
  have ev : evE C md (.var 1) en1 = .ok (.lst ((ns.map absI).map D.int), false) en2 := by rw [evE]; rfl
  have l1 := pe_op1 (C := C) (md := md) (o := .len) (p := (.int ((ns.map absI).map D.int).length, false)) (pa_pk g1) rfl
  have l2 := pe_op2 (o := .mul) (pe_cst (d := .int b1)).a (l1 : Pe C md en2 _ _ _).a (run_mul (mul_l hb1))
  have l3 := pe_op2 (o := .add) (p := (.int (b0 + b1 * (((ns.map absI).map D.int).length : Int)), false)) (pe_cst (d := .int b0)).a (l2 : Pe C md en2 _ _ _).a rfl
  have hlen : (((ns.map absI).map D.int).length : Int) = ns.length := by simp
  rw [hlen] at l3
  have er : evE C md (.op .lst (.cons (.var 1) (.cons (.cst (.int 0)) (.cons (.cst (.int 0)) (.cons (.op .add (.cons (.cst (.int b0)) (.cons (.op .mul (.cons (.cst (.int b1)) (.cons (.op .len (.cons (.pk 1) .nil)) .nil))) .nil))) (.cons (.cst (.int 0)) .nil)))))) en1 = .ok (hand (ns.map absI) 0 0 (b0 + b1 * ns.length) 0, true) en2 :=
    evE_opU (evA_consU (arg_e ev) (evA_consU (arg_e pe_cst) (evA_consU (arg_e pe_cst) (evA_consU (arg_e l3) (evA_consU (arg_e pe_cst) evA_nilU))))) rfl (by
      show gd (fit 5) _ = _
      have : fit 5 = true := by unfold fit; rw [sizeLine_eq]; decide
      rw [this]; rfl)
  have e5 := (ss_step s1).trans (ss_ret (w := w) (ss := .nil) er)
  show resOf 1 (evSs w C md (fnHand b0 b1).body en) = _
  show resOf 1 (evSs w C md (.cons _ (.cons _ .nil)) en) = _
  rw [e5]
  rfl
theorem absI_nn (i : Int) : 0 ≤ absI i := by unfold absI; split <;> omega
end
end L3

namespace Law
open PySem PySem.Spec PyProof.Rows L2 L3
abbrev WN : Nat := 20000
theorem md0 : mdOf tb 0 = [true] := rfl
theorem u0 (n : Nat) : callD tb WN (n + 1) 0 = runFn WN (callD tb WN n) (mdOf tb) fn_is_integer := callD_succ rfl
theorem md1 : mdOf tb 1 = [true, true, true] := rfl
theorem u1 (n : Nat) : callD tb WN (n + 1) 1 = runFn WN (callD tb WN n) (mdOf tb) fn_is_within := callD_succ rfl
theorem md2 : mdOf tb 2 = [false, false] := rfl
theorem u2 (n : Nat) : callD tb WN (n + 1) 2 = runFn WN (callD tb WN n) (mdOf tb) fn_common := callD_succ rfl
@[reducible] def W2_0c : E := (.op .gt (.cons (.pk 1) (.cons (.cst (.int 0)) .nil)))
@[reducible] def W2_0 : Ss := (.cons (.par [0, 1] (.cons (.var 1) (.cons (.op .mod (.cons (.pk 0) (.cons (.pk 1) .nil))) .nil))) .nil)
theorem md3 : mdOf tb 3 = [true] := rfl
theorem u3 (n : Nat) : callD tb WN (n + 1) 3 = runFn WN (callD tb WN n) (mdOf tb) fn_common_of := callD_succ rfl
@[reducible] def F3_0 : Ss := (.cons (.asg (.nm 1) (.call 2 (.cons (.var 1) (.cons (.var 2) .nil)))) .nil)
theorem md4 : mdOf tb 4 = [] := rfl
theorem u4 (n : Nat) : callD tb WN (n + 1) 4 = runFn WN (callD tb WN n) (mdOf tb) fn_BadCoins___init__ := callD_succ rfl
theorem md5 : mdOf tb 5 = [true, true, true, true] := rfl
theorem u5 (n : Nat) : callD tb WN (n + 1) 5 = runFn WN (callD tb WN n) (mdOf tb) fn_round_up := callD_succ rfl
@[reducible] def F5_0 : Ss := (.cons (.asg (.nm 6) (.var 5)) (.cons (.fr (.nm 7) .rng1 (.cons (.op .mul (.cons (.cst (.int 2)) (.cons (.op .fdiv (.cons (.pk 3) (.cons (.pk 4) .nil))) .nil))) .nil) (.cons (.asg (.nm 8) (.op .mod (.cons (.op .add (.cons (.pk 6) (.cons (.pk 2) .nil))) (.cons (.pk 3) .nil)))) (.cons (.ife (.and (.op .notN (.cons (.op .idx (.cons (.pk 0) (.cons (.pk 6) .nil))) .nil)) (.or (.op .isN (.cons (.op .idx (.cons (.pk 0) (.cons (.pk 8) .nil))) .nil)) (.op .lt (.cons (.op .add (.cons (.op .idx (.cons (.pk 0) (.cons (.pk 6) .nil))) (.cons (.pk 1) .nil))) (.cons (.op .idx (.cons (.pk 0) (.cons (.pk 8) .nil))) .nil))))) (.cons (.seti 0 (.op .add (.cons (.op .idx (.cons (.pk 0) (.cons (.pk 6) .nil))) (.cons (.pk 1) .nil))) (.var 8)) .nil) .nil) (.cons (.asg (.nm 6) (.var 8)) .nil)))) .nil))
@[reducible] def F5_1 : Ss := (.cons (.asg (.nm 8) (.op .mod (.cons (.op .add (.cons (.pk 6) (.cons (.pk 2) .nil))) (.cons (.pk 3) .nil)))) (.cons (.ife (.and (.op .notN (.cons (.op .idx (.cons (.pk 0) (.cons (.pk 6) .nil))) .nil)) (.or (.op .isN (.cons (.op .idx (.cons (.pk 0) (.cons (.pk 8) .nil))) .nil)) (.op .lt (.cons (.op .add (.cons (.op .idx (.cons (.pk 0) (.cons (.pk 6) .nil))) (.cons (.pk 1) .nil))) (.cons (.op .idx (.cons (.pk 0) (.cons (.pk 8) .nil))) .nil))))) (.cons (.seti 0 (.op .add (.cons (.op .idx (.cons (.pk 0) (.cons (.pk 6) .nil))) (.cons (.pk 1) .nil))) (.var 8)) .nil) .nil) (.cons (.asg (.nm 6) (.var 8)) .nil)))
theorem md6 : mdOf tb 6 = [true] := rfl
theorem u6 (n : Nat) : callD tb WN (n + 1) 6 = runFn WN (callD tb WN n) (mdOf tb) fn_built := callD_succ rfl
@[reducible] def F6_0 : Ss := (.cons (.asg (.nm 5) (.op .idx (.cons (.pk 3) (.cons (.op .mod (.cons (.pk 4) (.cons (.pk 1) .nil))) .nil)))) (.cons (.ife (.or (.op .isN (.cons (.pk 5) .nil)) (.op .gt (.cons (.pk 5) (.cons (.pk 4) .nil)))) (.cons (.ex (.mt .app 2 (.cons (.var 4) .nil))) (.cons (.ex (.call 5 (.cons (.pk 3) (.cons (.pk 4) (.cons (.op .mod (.cons (.pk 4) (.cons (.pk 1) .nil))) (.cons (.pk 1) .nil)))))) .nil)) .nil) .nil))
theorem md7 : mdOf tb 7 = [true] := rfl
theorem u7 (n : Nat) : callD tb WN (n + 1) 7 = runFn WN (callD tb WN n) (mdOf tb) fn_check_coins := callD_succ rfl
@[reducible] def F7_0 : Ss := (.cons (.ife (.or (.op .ge (.cons (.pk 1) (.cons (.op (.glb (.int 700)) .nil) .nil))) (.or (.nt (.call 1 (.cons (.pk 2) (.cons (.cst (.int 1)) (.cons (.op (.glb (.int 1000000)) .nil) .nil))))) (.op .inn (.cons (.pk 2) (.cons (.slB (.pk 0) (.var 1)) .nil))))) (.cons (.rse 3 ["at"] (.cons (.var 1) .nil)) .nil) .nil) .nil)
theorem md8 : mdOf tb 8 = [true, true] := rfl
theorem u8 (n : Nat) : callD tb WN (n + 1) 8 = runFn WN (callD tb WN n) (mdOf tb) fn_System___init__ := callD_succ rfl
theorem md9 : mdOf tb 9 = [] := rfl
theorem u9 (n : Nat) : callD tb WN (n + 1) 9 = runFn WN (callD tb WN n) (mdOf tb) fn_System___eq__ := callD_succ rfl
theorem md10 : mdOf tb 10 = [true] := rfl
theorem u10 (n : Nat) : callD tb WN (n + 1) 10 = runFn WN (callD tb WN n) (mdOf tb) fn_check_system := callD_succ rfl
theorem md11 : mdOf tb 11 = [true, true] := rfl
theorem u11 (n : Nat) : callD tb WN (n + 1) 11 = runFn WN (callD tb WN n) (mdOf tb) fn_pays_of := callD_succ rfl
theorem md12 : mdOf tb 12 = [true, true] := rfl
theorem u12 (n : Nat) : callD tb WN (n + 1) 12 = runFn WN (callD tb WN n) (mdOf tb) fn_order_mark := callD_succ rfl
@[reducible] def F12_0 : Ss := (.cons (.ife (.nt (.call 11 (.cons (.pk 0) (.cons (.pk 3) .nil)))) (.cons (.ex (.mt .app 2 (.cons (.cst (.int 0)) .nil))) .nil) (.cons (.asg (.nm 4) (.op .sum (.cons (.lc [5] (.nm 5) .rng1 (.cons (.var 3) .nil) (.call 11 (.cons (.pk 0) (.cons (.op .sub (.cons (.pk 3) (.cons (.pk 5) .nil))) .nil))) (.op .idx (.cons (.pk 2) (.cons (.pk 5) .nil)))) .nil))) (.cons (.ex (.mt .app 2 (.cons (.ite (.op .eq (.cons (.pk 3) (.cons (.cst (.int 0)) .nil))) (.cst (.int 1)) (.op .neg (.cons (.pk 4) .nil))) .nil))) .nil))) .nil)
@[reducible] def L12_1c : E := (.call 11 (.cons (.pk 0) (.cons (.op .sub (.cons (.pk 3) (.cons (.pk 5) .nil))) .nil)))
@[reducible] def L12_1 : E := (.op .idx (.cons (.pk 2) (.cons (.pk 5) .nil)))
theorem md13 : mdOf tb 13 = [true] := rfl
theorem u13 (n : Nat) : callD tb WN (n + 1) 13 = runFn WN (callD tb WN n) (mdOf tb) fn__law_hand := callD_succ rfl
@[reducible] def L13_0c : E := (.cst (.bl true))
@[reducible] def L13_0 : E := (.op .abs (.cons (.op .int (.cons (.pk 1) .nil)) .nil))
theorem md14 : mdOf tb 14 = [true, true] := rfl
theorem u14 (n : Nat) : callD tb WN (n + 1) 14 = runFn WN (callD tb WN n) (mdOf tb) fn__law_draw := callD_succ rfl
theorem md15 : mdOf tb 15 = [true, true] := rfl
theorem u15 (n : Nat) : callD tb WN (n + 1) 15 = runFn WN (callD tb WN n) (mdOf tb) fn__law_any := callD_succ rfl
theorem md16 : mdOf tb 16 = [true, true] := rfl
theorem u16 (n : Nat) : callD tb WN (n + 1) 16 = runFn WN (callD tb WN n) (mdOf tb) fn__law_same := callD_succ rfl
@[reducible] def L16_0c : E := (.cst (.bl true))
@[reducible] def L16_0 : E := (.call 16 (.cons (.pk 2) (.cons (.pk 3) .nil)))
theorem md17 : mdOf tb 17 = [true] := rfl
theorem u17 (n : Nat) : callD tb WN (n + 1) 17 = runFn WN (callD tb WN n) (mdOf tb) fn__law_odd := callD_succ rfl
@[reducible] def F17_0 : Ss := (.cons (.asg (.nm 1) (.op .idx (.cons (.op .lst (.cons (.op .tup (.cons (.var 1) .nil)) (.cons (.op .lst (.cons (.var 1) .nil)) (.cons (.op (.dsp1 (.inl 0)) (.cons (.var 1) .nil)) .nil)))) (.cons (.call 14 (.cons (.pk 0) (.cons (.cst (.int 3)) .nil))) .nil)))) .nil)
theorem md18 : mdOf tb 18 = [false, false] := rfl
theorem u18 (n : Nat) : callD tb WN (n + 1) 18 = runFn WN (callD tb WN n) (mdOf tb) fn__law_common := callD_succ rfl
@[reducible] def W18_0c : E := (.op .gt (.cons (.pk 1) (.cons (.cst (.int 0)) .nil)))
@[reducible] def W18_0 : Ss := (.cons (.par [0, 1] (.cons (.var 1) (.cons (.op .mod (.cons (.op .int (.cons (.pk 0) .nil)) (.cons (.pk 1) .nil))) .nil))) .nil)
theorem md19 : mdOf tb 19 = [true, true] := rfl
theorem u19 (n : Nat) : callD tb WN (n + 1) 19 = runFn WN (callD tb WN n) (mdOf tb) fn__law_bits := callD_succ rfl
@[reducible] def F19_0 : Ss := (.cons (.ex (.mt .app 2 (.cons (.op .any (.cons (.lcp [4] (.nm 4) 0 (.cst (.bl true)) (.and (.op .le (.cons (.pk 4) (.cons (.pk 3) .nil))) (.op .idx (.cons (.pk 2) (.cons (.op .sub (.cons (.pk 3) (.cons (.pk 4) .nil))) .nil))))) .nil)) .nil))) .nil)
@[reducible] def L19_1c : E := (.cst (.bl true))
@[reducible] def L19_1 : E := (.and (.op .le (.cons (.pk 4) (.cons (.pk 3) .nil))) (.op .idx (.cons (.pk 2) (.cons (.op .sub (.cons (.pk 3) (.cons (.pk 4) .nil))) .nil))))
theorem md20 : mdOf tb 20 = [true] := rfl
theorem u20 (n : Nat) : callD tb WN (n + 1) 20 = runFn WN (callD tb WN n) (mdOf tb) fn__law_needed := callD_succ rfl
@[reducible] def F20_0 : Ss := (.cons (.ife (.or (.op .eq (.cons (.op .len (.cons (.pk 1) .nil)) (.cons (.cst (.int 0)) .nil))) (.nt (.op .idx (.cons (.call 19 (.cons (.pk 1) (.cons (.pk 2) .nil))) (.cons (.pk 2) .nil))))) (.cons (.ex (.mt .app 1 (.cons (.var 2) .nil))) .nil) .nil) .nil)
theorem md21 : mdOf tb 21 = [true, true, true, true] := rfl
theorem u21 (n : Nat) : callD tb WN (n + 1) 21 = runFn WN (callD tb WN n) (mdOf tb) fn__law_drawn := callD_succ rfl
@[reducible] def L21_0c : E := (.cst (.bl true))
@[reducible] def L21_0 : E := (.op .add (.cons (.pk 1) (.cons (.call 14 (.cons (.pk 0) (.cons (.op .sub (.cons (.op .add (.cons (.pk 2) (.cons (.cst (.int 1)) .nil))) (.cons (.pk 1) .nil))) .nil))) .nil)))
@[reducible] def F21_1 : Ss := (.cons (.asg (.nm 5) (.call 18 (.cons (.var 6) (.cons (.var 5) .nil)))) .nil)
theorem md22 : mdOf tb 22 = [true, true] := rfl
theorem u22 (n : Nat) : callD tb WN (n + 1) 22 = runFn WN (callD tb WN n) (mdOf tb) fn__law_marks := callD_succ rfl
@[reducible] def F22_0 : Ss := (.cons (.asg (.nm 4) (.lc [5] (.nm 5) .rng1 (.cons (.var 3) .nil) (.and (.op .idx (.cons (.pk 0) (.cons (.pk 5) .nil))) (.op .idx (.cons (.pk 0) (.cons (.op .sub (.cons (.pk 3) (.cons (.pk 5) .nil))) .nil)))) (.op .idx (.cons (.pk 2) (.cons (.pk 5) .nil))))) (.cons (.ex (.mt .app 2 (.cons (.ite (.op .idx (.cons (.pk 0) (.cons (.pk 3) .nil))) (.op .sub (.cons (.cst (.int 0)) (.cons (.op .sum (.cons (.pk 4) .nil)) .nil))) (.cst (.int 0))) .nil))) .nil))
@[reducible] def L22_1c : E := (.and (.op .idx (.cons (.pk 0) (.cons (.pk 5) .nil))) (.op .idx (.cons (.pk 0) (.cons (.op .sub (.cons (.pk 3) (.cons (.pk 5) .nil))) .nil))))
@[reducible] def L22_1 : E := (.op .idx (.cons (.pk 2) (.cons (.pk 5) .nil)))
theorem md23 : mdOf tb 23 = [true, true, true] := rfl
theorem u23 (n : Nat) : callD tb WN (n + 1) 23 = runFn WN (callD tb WN n) (mdOf tb) fn__law_two := callD_succ rfl
@[reducible] def F23_0 : Ss := (.cons (.fr (.nm 6) .rng3 (.cons (.var 4) (.cons (.op .add (.cons (.pk 2) (.cons (.cst (.int 1)) .nil))) (.cons (.op .mul (.cons (.pk 0) (.cons (.pk 1) .nil))) .nil))) (.cons (.seti 3 (.op .add (.cons (.op .idx (.cons (.pk 3) (.cons (.pk 6) .nil))) (.cons (.pk 5) .nil))) (.var 6)) .nil)) .nil)
@[reducible] def F23_1 : Ss := (.cons (.seti 3 (.op .add (.cons (.op .idx (.cons (.pk 3) (.cons (.pk 6) .nil))) (.cons (.pk 5) .nil))) (.var 6)) .nil)
theorem md24 : mdOf tb 24 = [true] := rfl
theorem u24 (n : Nat) : callD tb WN (n + 1) 24 = runFn WN (callD tb WN n) (mdOf tb) fn__law_word := callD_succ rfl
theorem md25 : mdOf tb 25 = [true] := rfl
theorem u25 (n : Nat) : callD tb WN (n + 1) 25 = runFn WN (callD tb WN n) (mdOf tb) fn_law := callD_succ rfl
@[reducible] def F25_0 : Ss := (.cons (.par [3, 4] (.cons (.call 15 (.cons (.pk 1) (.cons (.op .add (.cons (.op .rep (.cons (.op .lst (.cons (.call 21 (.cons (.pk 1) (.cons (.cst (.int 2)) (.cons (.cst (.int 12)) (.cons (.cst (.int 4)) .nil))))) .nil)) (.cons (.cst (.int 5)) .nil))) (.cons (.op .lst (.cons (.op .tup (.cons (.cst (.int 1)) .nil)) .nil)) .nil))) .nil))) (.cons (.call 14 (.cons (.pk 1) (.cons (.cst (.int 101)) .nil))) .nil))) (.cons (.asg (.tp [5, 6]) (.op .tup (.cons (.mk 4 8 (.cons (.var 3) .nil)) (.cons (.call 19 (.cons (.pk 3) (.cons (.pk 4) .nil))) .nil)))) (.cons (.asg (.tp [7, 8]) (.op .tup (.cons (.call 22 (.cons (.pk 6) (.cons (.pk 4) .nil))) (.cons (.call 12 (.cons (.pk 5) (.cons (.pk 4) .nil))) .nil)))) (.cons (.ife (.nt (.call 16 (.cons (.op .lstOf (.cons (.pk 8) .nil)) (.cons (.pk 7) .nil)))) (.cons (.ret (.cst (.bl false))) .nil) .nil) (.cons (.fr (.nm 9) .rng2 (.cons (.cst (.int 1)) (.cons (.op .add (.cons (.pk 4) (.cons (.cst (.int 1)) .nil))) .nil)) (.cons (.ife (.op .ne (.cons (.op .sum (.cons (.lc [14] (.nm 14) .rng1 (.cons (.op .add (.cons (.pk 9) (.cons (.cst (.int 1)) .nil))) .nil) (.op .idx (.cons (.pk 6) (.cons (.op .sub (.cons (.pk 9) (.cons (.pk 14) .nil))) .nil))) (.op .idx (.cons (.pk 8) (.cons (.pk 14) .nil)))) .nil)) (.cons (.cst (.int 0)) .nil))) (.cons (.ret (.cst (.bl false))) .nil) .nil) .nil)) (.cons (.ife (.and (.op .eq (.cons (.op .len (.cons (.pk 3) .nil)) (.cons (.cst (.int 2)) .nil))) (.op .ne (.cons (.call 23 (.cons (.op .idx (.cons (.pk 3) (.cons (.cst (.int 0)) .nil))) (.cons (.op .idx (.cons (.pk 3) (.cons (.cst (.int 1)) .nil))) (.cons (.pk 4) .nil)))) (.cons (.pk 7) .nil)))) (.cons (.ret (.cst (.bl false))) .nil) .nil) (.cons (.asg (.nm 10) (.call 14 (.cons (.pk 1) (.cons (.op .add (.cons (.pk 4) (.cons (.cst (.int 1)) .nil))) .nil)))) (.cons (.ife (.op .ne (.cons (.op .lstOf (.cons (.call 12 (.cons (.pk 5) (.cons (.pk 10) .nil))) .nil)) (.cons (.slB (.pk 7) (.op .add (.cons (.pk 10) (.cons (.cst (.int 1)) .nil)))) .nil))) (.cons (.ret (.cst (.bl false))) .nil) .nil) (.cons (.asg (.nm 11) (.call 15 (.cons (.pk 1) (.cons (.op .lst (.cons (.op .neg (.cons (.cst (.int 1)) .nil)) (.cons (.cst (.int 2001)) (.cons (.cst (.bl true)) (.cons (.cst .non) (.cons (.cst (.str "3")) (.cons (.op .tup (.cons (.cst (.int 3)) .nil)) (.cons (.op .lst .nil) (.cons (.op .pow (.cons (.cst (.int 10)) (.cons (.cst (.int 30)) .nil))) .nil))))))))) .nil)))) (.cons (.asg (.nm 12) (.call 15 (.cons (.pk 1) (.cons (.op .lst (.cons (.cst .non) (.cons (.cst (.int 0)) (.cons (.cst (.str "system")) (.cons (.op .lst (.cons (.var 5) .nil)) (.cons (.op .dnew .nil) (.cons (.var 3) (.cons (.call 17 (.cons (.pk 1) .nil)) .nil)))))))) .nil)))) (.cons (.asg (.nm 13) (.op .lst (.cons (.lam 24 (.call 12 (.cons (.pk 12) (.cons (.pk 11) .nil)))) .nil))) (.cons (.ex (.mt .app 13 (.cons (.lam 24 (.call 12 (.cons (.pk 5) (.cons (.pk 11) .nil)))) .nil))) (.cons (.ife (.op .ne (.cons (.pk 13) (.cons (.op .lst (.cons (.cst (.str "system")) (.cons (.cst (.str "number")) .nil))) .nil))) (.cons (.ret (.cst (.bl false))) .nil) .nil) .nil)))))))))))))
@[reducible] def F25_1 : Ss := (.cons (.ife (.op .ne (.cons (.op .sum (.cons (.lc [14] (.nm 14) .rng1 (.cons (.op .add (.cons (.pk 9) (.cons (.cst (.int 1)) .nil))) .nil) (.op .idx (.cons (.pk 6) (.cons (.op .sub (.cons (.pk 9) (.cons (.pk 14) .nil))) .nil))) (.op .idx (.cons (.pk 8) (.cons (.pk 14) .nil)))) .nil)) (.cons (.cst (.int 0)) .nil))) (.cons (.ret (.cst (.bl false))) .nil) .nil) .nil)
@[reducible] def L25_2c : E := (.op .idx (.cons (.pk 6) (.cons (.op .sub (.cons (.pk 9) (.cons (.pk 14) .nil))) .nil)))
@[reducible] def L25_2 : E := (.op .idx (.cons (.pk 8) (.cons (.pk 14) .nil)))
theorem outs1 {c : Cell} {en : En} : outsOf 1 (c :: en) = [keepB c] := rfl
theorem outs2 {c d : Cell} {en : En} : outsOf 2 (c :: d :: en) = [keepB c, keepB d] := rfl
theorem outs3 {c d e : Cell} {en : En} : outsOf 3 (c :: d :: e :: en) = [keepB c, keepB d, keepB e] := rfl
theorem outs4 {c d e f : Cell} {en : En} : outsOf 4 (c :: d :: e :: f :: en) = [keepB c, keepB d, keepB e, keepB f] := rfl
section
variable {w : Nat} {C : Nat → List (Bool × D) → CRes} {md : Nat → List Bool}
def whlR (w : Nat) (C : Nat → List (Bool × D) → CRes) (md : Nat → List Bool) (c : E) (b : Ss) (n : Nat) (en : En) : Rs Fl := loopW (fun en => toB (evE C md c en)) (fun en => evSs w C md b en) n en
def frR (w : Nat) (C : Nat → List (Bool × D) → CRes) (md : Nat → List Bool) (tg : Tg) (b : Ss) (items : List D) (en : En) : Rs Fl := loopF (fun d en => (stR (stTg tg d false en)).bind fun _ en => evSs w C md b en) items en
def lcR (C : Nat → List (Bool × D) → CRes) (md : Nat → List Bool) (vs : List Nat) (tg : Tg) (c e : E) (items acc : List D) (en : En) : Rs (List D) := loopC vs tg (fun en => toB (evE C md c en)) (fun en => evE C md e en) items acc en
theorem evS_whlR {c : E} {b : Ss} {en : En} : evS w C md (.whl c b) en = whlR w C md c b w en := by rw [evS] <;> rfl
theorem evS_frR {tg : Tg} {k : ItK} {as : Es} {b : Ss} {en : En} : evS w C md (.fr tg k as b) en = (evA C md as en).bind fun avs en => (itFin k avs en).bind fun items en => frR w C md tg b items en := by rw [evS] <;> rfl
theorem evE_lcR {vs : List Nat} {tg : Tg} {k : ItK} {as : Es} {c e : E} {en : En} : evE C md (.lc vs tg k as c e) en = (evA C md as en).bind fun avs en => (itFin k avs en).bind fun items en => if vs.all (shE en) && tg.slots.all vs.contains then
      (lcR C md vs tg c e items [] (wipeE en vs)).bind fun xs en' => .ok (.lst xs, true) (restE en en' vs)
    else .bad := by rw [evE] <;> rfl
theorem evS_frpR {tg : Tg} {i : Nat} {b : Ss} {en : En} : evS w C md (.frp tg i b) en = match walkP i en with | some (xs, k, en1) => unfzO i k (frR w C md tg b xs en1) | none => .bad := by rw [evS] <;> rfl
theorem evE_lcpR {vs : List Nat} {tg : Tg} {i : Nat} {c e : E} {en : En} : evE C md (.lcp vs tg i c e) en = match walkP i en with
    | some (xs, k, en1) => if vs.all (shE en1) && tg.slots.all vs.contains then unfzO i k ((lcR C md vs tg c e xs [] (wipeE en1 vs)).bind fun ys en' => .ok (.lst ys, true) (restE en1 en' vs)) else .bad
    | none => .bad := by rw [evE] <;> rfl
theorem whlR_succ {c : E} {b : Ss} {n : Nat} {en : En} : whlR w C md c b (n + 1) en = (toB (evE C md c en)).bind fun k en => if k then (evSs w C md b en).bind fun fl en => match fl with
      | .nx => whlR w C md c b n en
      | .ct => whlR w C md c b n en
      | .br => .ok .nx en
      | .rt d o => .ok (.rt d o) en
    else .ok .nx en := by unfold whlR; rw [loopW] <;> rfl
theorem frR_nil {tg : Tg} {b : Ss} {en : En} : frR w C md tg b [] en = .ok .nx en := by unfold frR; rw [loopF]
theorem frR_cons {tg : Tg} {b : Ss} {d : D} {ds : List D} {en : En} : frR w C md tg b (d :: ds) en = ((stR (stTg tg d false en)).bind fun _ en => evSs w C md b en).bind fun fl en => match fl with
    | .nx => frR w C md tg b ds en
    | .ct => frR w C md tg b ds en
    | .br => .ok .nx en
    | .rt d o => .ok (.rt d o) en := by unfold frR; rw [loopF] <;> rfl
theorem lcR_nil {vs : List Nat} {tg : Tg} {c e : E} {acc : List D} {en : En} : lcR C md vs tg c e [] acc en = .ok acc en := by unfold lcR; rw [loopC]
theorem lcR_cons {vs : List Nat} {tg : Tg} {c e : E} {d : D} {ds acc : List D} {en : En} : lcR C md vs tg c e (d :: ds) acc en = (stR (stTg tg d false en)).bind fun _ en => (noEr (toB (evE C md c en))).bind fun k en =>
      if k then (noEr (evE C md e en)).bind fun p en => if decide (acc.length < sizeLine) then lcR C md vs tg c e ds (acc ++ [p.1]) (wipeE en vs) else .bad
      else lcR C md vs tg c e ds acc (wipeE en vs) := by unfold lcR; rw [loopC]
theorem lcR_map {vs : List Nat} {tg : Tg} {c e : E} {g : D → D} {en0 : En} (items acc : List D) (h : ∀ d ∈ items, ∃ en1, stTg tg d false en0 = some en1 ∧ toB (evE C md c en1) = .ok true en1 ∧ (∃ own, evE C md e en1 = .ok (g d, own) en1) ∧ wipeE en1 vs = en0)
    (hl : acc.length + items.length ≤ sizeLine) : lcR C md vs tg c e items acc en0 = .ok (acc ++ items.map g) en0 := loopC_map items acc h hl
theorem frR_inv {tg : Tg} {b : Ss} (I : En → Prop) (items : List D) (en : En) (hi : I en) (h : ∀ d ∈ items, ∀ en, I en → ∃ en', ((stR (stTg tg d false en)).bind fun _ en => evSs w C md b en) = .ok .nx en' ∧ I en') : ∃ en', frR w C md tg b items en = .ok .nx en' ∧ I en' :=
  loopF_inv I items en hi h
/-- a loop that ends by return at the first item of a kind -/
theorem frR_scan {tg : Tg} {b : Ss} {E : Cell → En} {p : D → Option D} : ∀ (items : List D) (h : ∀ d ∈ items, ∀ c, (c = none ∨ ∃ x, c = some (.sh, x)) → ((stR (stTg tg d false (E c))).bind fun _ en => evSs w C md b en) = .ok (match p d with | some r => .rt r false | none => .nx) (E (some (.sh, d)))) (c : Cell) (hc : c = none ∨ ∃ x, c = some (.sh, x)),
    ∃ c', (c' = none ∨ ∃ x, c' = some (.sh, x)) ∧ frR w C md tg b items (E c) = .ok (match items.findSome? p with | some r => .rt r false | none => .nx) (E c')
  | [], _, c, hc => ⟨c, hc, by rw [frR_nil] <;> rfl⟩
  | d :: ds, h, c, hc => by
    have h1 := h d List.mem_cons_self c hc
    rw [frR_cons, h1]
    cases hp : p d with
    | some r => exact ⟨some (.sh, d), .inr ⟨d, rfl⟩, by simp [List.findSome?_cons, hp]⟩
    | none =>
      obtain ⟨c', k1, k2⟩ := frR_scan ds (fun d hd => h d (List.mem_cons_of_mem _ hd)) (some (.sh, d)) (.inr ⟨d, rfl⟩)
      exact ⟨c', k1, by simp [List.findSome?_cons, hp, k2]⟩
end
theorem lt_sz {n : Nat} (h : n < 100000) : n < sizeLine := by rw [sizeLine_eq]; omega
theorem sz0 : 0 < sizeLine := lt_sz (by decide)
theorem sz1 : 1 < sizeLine := lt_sz (by decide)
theorem sz2 : 2 < sizeLine := lt_sz (by decide)
theorem at30 {x y z : D} : atI [x, y, z] 0 = some x := rfl
theorem at31 {x y z : D} : atI [x, y, z] 1 = some y := rfl
theorem at32 {x y z : D} : atI [x, y, z] 2 = some z := rfl
theorem at20 {x y : D} : atI [x, y] 0 = some x := rfl
theorem at21 {x y : D} : atI [x, y] 1 = some y := rfl
theorem eqD_int {i j : Int} : eqD (.int i) (.int j) = some (decide (i = j)) := by
  show some _ = _
  congr 1
theorem cutA0 {x y z : D} : cut [x, y, z] none (some 0) = [] := rfl
theorem cutA1 {x y z : D} : cut [x, y, z] none (some 1) = [x] := rfl
theorem cutA2 {x y z : D} : cut [x, y, z] none (some 2) = [x, y] := rfl
theorem fit3 : fit 3 = true := by unfold fit; rw [sizeLine_eq]; decide
theorem fit_of {n : Nat} (h : n ≤ 100000) : fit n = true := by unfold fit; rw [sizeLine_eq]; exact decide_eq_true (by omega)
end Law

/-! G1: sums of coins, tables of least sums, in plain Lean. -/
namespace L3
open PySem PySem.Spec PyProof.Rows L2
/-- what coins pay -/
inductive Gen (S : List Nat) : Nat → Prop
  | zero : Gen S 0
  | add {c n : Nat} : c ∈ S → Gen S n → Gen S (n + c)
theorem Gen.plus {S : List Nat} {a b : Nat} (ha : Gen S a) (hb : Gen S b) : Gen S (a + b) := by
  induction hb with
  | zero => exact ha
  | add hc _ ih => rw [← Nat.add_assoc]; exact .add hc ih
theorem Gen.one {S : List Nat} {c : Nat} (h : c ∈ S) : Gen S c := by
  have := Gen.add h (Gen.zero (S := S))
  rwa [Nat.zero_add] at this
theorem Gen.mul {S : List Nat} {a : Nat} (h : Gen S a) : ∀ k : Nat, Gen S (k * a)
  | 0 => by rw [Nat.zero_mul]; exact .zero
  | k + 1 => by rw [Nat.succ_mul]; exact (h.mul k).plus h
theorem Gen.mono {S T : List Nat} (hs : ∀ c ∈ S, Gen T c) {n : Nat} (h : Gen S n) : Gen T n := by
  induction h with
  | zero => exact .zero
  | add hc _ ih => exact ih.plus (hs _ hc)
theorem Gen.sub {S T : List Nat} (hs : ∀ c ∈ S, c ∈ T) {n : Nat} (h : Gen S n) : Gen T n := h.mono fun c hc => .one (hs c hc)
theorem gen_snoc {S : List Nat} {c n : Nat} : Gen (S ++ [c]) n ↔ ∃ k a, Gen S a ∧ n = a + k * c := by
  constructor
  · intro h
    induction h with
    | zero => exact ⟨0, 0, .zero, by omega⟩
    | add hc _ ih =>
      obtain ⟨k, a, ha, e⟩ := ih
      rcases List.mem_append.mp hc with hc | hc
      · exact ⟨k, a + _, ha.plus (.one hc), by rw [e]; omega⟩
      · have := List.mem_singleton.mp hc
        subst this
        exact ⟨k + 1, a, ha, by rw [e, Nat.succ_mul]; omega⟩
  · rintro ⟨k, a, ha, rfl⟩
    exact (ha.sub fun c hc => List.mem_append_left _ hc).plus ((Gen.one (List.mem_append_right _ (List.mem_singleton.mpr rfl))).mul k)
theorem gen_iff {S : List Nat} {n : Nat} : Gen S n ↔ n = 0 ∨ ∃ c ∈ S, c ≤ n ∧ Gen S (n - c) := by
  constructor
  · intro h
    cases h with
    | zero => exact .inl rfl
    | add hc h' => exact .inr ⟨_, hc, by omega, by rw [Nat.add_sub_cancel]; exact h'⟩
  · rintro (rfl | ⟨c, hc, hle, h⟩)
    · exact .zero
    · have := Gen.add hc h
      rwa [Nat.sub_add_cancel hle] at this
open Classical in
/-- payable, as a flag -/
noncomputable def gb (S : List Nat) (n : Nat) : Bool := if Gen S n then true else false
theorem gb_iff {S : List Nat} {n : Nat} : gb S n = true ↔ Gen S n := by unfold gb; split <;> simp_all
theorem gb_no {S : List Nat} {n : Nat} : gb S n = false ↔ ¬ Gen S n := by rw [← gb_iff]; cases gb S n <;> simp
theorem gb_zero (S : List Nat) : gb S 0 = true := gb_iff.mpr .zero
/-- an integer -/
noncomputable def gi (S : List Nat) (n : Int) : Bool := decide (0 ≤ n) && gb S n.toNat
/-! ### without a common divisor -/
def gcdL (S : List Nat) : Nat := S.foldr Nat.gcd 0
theorem gcdL_dvd : ∀ {S : List Nat} {d : Nat}, d ∣ gcdL S ↔ ∀ c ∈ S, d ∣ c
  | [], d => by simp [gcdL]
  | a :: S, d => by
    show d ∣ Nat.gcd a (gcdL S) ↔ _
    rw [Nat.dvd_gcd_iff, gcdL_dvd (S := S)]
    simp
theorem foldl_gcd : ∀ (S : List Nat) (g : Nat), S.foldl Nat.gcd g = Nat.gcd g (gcdL S)
  | [], g => by simp [gcdL]
  | a :: S, g => by
    show S.foldl Nat.gcd (Nat.gcd g a) = _
    rw [foldl_gcd S, Nat.gcd_assoc]; rfl
theorem foldl_gcd0 (S : List Nat) : S.foldl Nat.gcd 0 = gcdL S := by rw [foldl_gcd, Nat.gcd_zero_left]
theorem bezoutN (a b : Nat) : ∃ x y : Int, x * a + y * b = (Nat.gcd a b : Nat) := by
  induction a, b using Nat.gcd.induction with
  | H0 b => exact ⟨0, 1, by simp⟩
  | H1 a b ha ih =>
    obtain ⟨x, y, e⟩ := ih
    refine ⟨y - x * (b / a : Nat), x, ?_⟩
    rw [Nat.gcd_rec, ← e]
    have h := Nat.div_add_mod b a
    have h2 : (b : Int) = a * (b / a : Nat) + (b % a : Nat) := by rw [← Int.natCast_mul, ← Int.natCast_add, h]
    have e1 : x * ((b : Nat) : Int) = x * ((a : Int) * (b / a : Nat)) + x * (b % a : Nat) := by rw [← Int.mul_add, ← h2]
    rw [Int.sub_mul, e1, Int.mul_assoc x, Int.mul_comm ((b / a : Nat) : Int)]
    omega
theorem gen_gcd : ∀ (S : List Nat) (m : Nat), 0 < m → ∃ a, Gen S a ∧ a % m = gcdL S % m
  | [], m, _ => ⟨0, .zero, rfl⟩
  | c :: S, m, hm => by
    obtain ⟨a, ha, e⟩ := gen_gcd S m hm
    obtain ⟨x, y, exy⟩ := bezoutN c (gcdL S)
    have hm' : (m : Int) ≠ 0 := by omega
    let X : Int := x % m
    let Y : Int := y % m
    have hX : 0 ≤ X := Int.emod_nonneg _ hm'
    have hY : 0 ≤ Y := Int.emod_nonneg _ hm'
    refine ⟨X.toNat * c + Y.toNat * a, ((Gen.one List.mem_cons_self).mul _).plus ((ha.sub fun z hz => List.mem_cons_of_mem _ hz).mul _), ?_⟩
    have h1 : (((X.toNat * c + Y.toNat * a) % m : Nat) : Int) = ((gcdL (c :: S) % m : Nat) : Int) := by
      rw [Int.natCast_emod, Int.natCast_emod, Int.natCast_add, Int.natCast_mul, Int.natCast_mul, Int.toNat_of_nonneg hX, Int.toNat_of_nonneg hY]
      have e2 : ((a : Int)) % m = ((gcdL S : Nat) : Int) % m := by rw [← Int.natCast_emod, e, Int.natCast_emod]
      rw [Int.add_emod, Int.mul_emod X, Int.mul_emod Y, e2]
      show ((x % m % m * (c % m)) % m + (y % m % m * (gcdL S % m)) % m) % (m : Int) = _
      rw [Int.emod_emod, Int.emod_emod, ← Int.mul_emod, ← Int.mul_emod, ← Int.add_emod, exy]
      rfl
    exact Int.natCast_inj.mp h1
/-- each rest is paid -/
theorem gen_rest {S : List Nat} (h : gcdL S = 1) (m r : Nat) (hm : 0 < m) (hr : r < m) : ∃ a, Gen S a ∧ a % m = r := by
  obtain ⟨a, ha, e⟩ := gen_gcd S m hm
  refine ⟨r * a, ha.mul r, ?_⟩
  rw [Nat.mul_mod, e, h, ← Nat.mul_mod, Nat.mul_one, Nat.mod_eq_of_lt hr]
/-! ### tables of least sums -/
def isNI (x : D) : Prop := x = .non ∨ ∃ v, x = .int v
def WFl (fl : List D) (m : Nat) : Prop := fl.length = m ∧ ∀ x ∈ fl, isNI x
/-- a number at a place, at most b -/
def Has (fl : List D) (r : Nat) (b : Int) : Prop := ∃ v, fl[r]? = some (.int v) ∧ v ≤ b
theorem Has.le {fl : List D} {r : Nat} {b b' : Int} (h : Has fl r b) (hb : b ≤ b') : Has fl r b' := by
  obtain ⟨v, e, hv⟩ := h
  exact ⟨v, e, by omega⟩
def stepL (coin : Int) (fl : List D) (h t : Nat) : List D := match fl[h]?, fl[t]? with
  | some (.int v), some .non => fl.set t (.int (v + coin))
  | some (.int v), some (.int u) => if v + coin < u then fl.set t (.int (v + coin)) else fl
  | _, _ => fl
theorem WFl.at {fl : List D} {m r : Nat} (h : WFl fl m) (hr : r < m) : ∃ x, fl[r]? = some x ∧ isNI x := by
  have hl : r < fl.length := by rw [h.1]; exact hr
  exact ⟨fl[r], List.getElem?_eq_getElem hl, h.2 _ (List.getElem_mem _)⟩
theorem WFl.set {fl : List D} {m t : Nat} {v : Int} (h : WFl fl m) : WFl (fl.set t (.int v)) m := by
  refine ⟨by rw [List.length_set]; exact h.1, fun x hx => ?_⟩
  rcases List.mem_or_eq_of_mem_set hx with hx | rfl
  · exact h.2 x hx
  · exact .inr ⟨v, rfl⟩
/-- what one step does -/
theorem stepL_cases {coin : Int} {fl : List D} {m h t : Nat} (w : WFl fl m) (ht : t < m) : (stepL coin fl h t = fl ∧ ∀ v, fl[h]? = some (.int v) → Has fl t (v + coin)) ∨ ∃ v, fl[h]? = some (.int v) ∧ stepL coin fl h t = fl.set t (.int (v + coin)) ∧ ∀ u, fl[t]? = some (.int u) → v + coin ≤ u := by
  obtain ⟨y, ey, hy⟩ := w.at ht
  unfold stepL
  cases eh : fl[h]? with
  | none => exact .inl ⟨rfl, fun v e => by cases e⟩
  | some x =>
    rw [ey]
    cases x with
    | int v =>
      rcases hy with rfl | ⟨u, rfl⟩
      · exact .inr ⟨v, rfl, rfl, fun u e => by cases e⟩
      · show (if v + coin < u then _ else _) = _ ∧ _ ∨ _
        by_cases hlt : v + coin < u
        · exact .inr ⟨v, rfl, if_pos hlt, fun u' e => by cases e; omega⟩
        · exact .inl ⟨if_neg hlt, fun v' e => by cases e; exact ⟨u, ey, by omega⟩⟩
    | _ => exact .inl ⟨rfl, fun v e => by cases e⟩
theorem stepL_wf {coin : Int} {fl : List D} {m h t : Nat} (w : WFl fl m) (ht : t < m) : WFl (stepL coin fl h t) m := by
  rcases stepL_cases (coin := coin) (h := h) w ht with ⟨e, _⟩ | ⟨v, _, e, _⟩
  · rw [e]; exact w
  · rw [e]; exact w.set
theorem stepL_mono {coin : Int} {fl : List D} {m h t r : Nat} {b : Int} (w : WFl fl m) (ht : t < m) (f : Has fl r b) : Has (stepL coin fl h t) r b := by
  rcases stepL_cases (coin := coin) (h := h) w ht with ⟨e, _⟩ | ⟨v, _, e, hu⟩
  · rw [e]; exact f
  · rw [e]
    by_cases hr : t = r
    · subst hr
      obtain ⟨u, eu, hub⟩ := f
      have := hu u eu
      exact ⟨v + coin, by rw [List.getElem?_set_self (by rw [w.1]; exact ht)], by omega⟩
    · obtain ⟨u, eu, hub⟩ := f
      exact ⟨u, by rw [List.getElem?_set_ne hr]; exact eu, hub⟩
theorem stepL_fill {coin : Int} {fl : List D} {m h t : Nat} {b : Int} (w : WFl fl m) (ht : t < m) (f : Has fl h b) : Has (stepL coin fl h t) t (b + coin) := by
  obtain ⟨v0, e0, hb⟩ := f
  rcases stepL_cases (coin := coin) (h := h) w ht with ⟨e, hs⟩ | ⟨v, ev, e, _⟩
  · rw [e]; exact (hs v0 e0).le (by omega)
  · rw [e]
    rw [e0] at ev
    cases ev
    exact ⟨v0 + coin, by rw [List.getElem?_set_self (by rw [w.1]; exact ht)], by omega⟩
/-- each number there is sound -/
def Snd (P : Nat → Int → Prop) (fl : List D) : Prop := ∀ r v, fl[r]? = some (.int v) → P r v
theorem stepL_snd {P : Nat → Int → Prop} {coin : Int} {fl : List D} {m h t : Nat} (w : WFl fl m) (ht : t < m) (hp : ∀ v, P h v → P t (v + coin)) (s : Snd P fl) : Snd P (stepL coin fl h t) := by
  rcases stepL_cases (coin := coin) (h := h) w ht with ⟨e, _⟩ | ⟨v, ev, e, _⟩
  · rw [e]; exact s
  · rw [e]
    intro r u eu
    by_cases hr : t = r
    · subst hr
      rw [List.getElem?_set_self (by rw [w.1]; exact ht)] at eu
      cases eu
      exact hp v (s h v ev)
    · rw [List.getElem?_set_ne hr] at eu
      exact s r u eu
/-- the table of what S pays -/
structure Tab (S : List Nat) (m : Nat) (fl : List D) : Prop where
  wf : WFl fl m
  snd : Snd (fun r v => ∃ a : Nat, v = a ∧ Gen S a ∧ a % m = r) fl
  cmp : ∀ a, Gen S a → Has fl (a % m) a
def fl0 (m : Nat) : List D := .int 0 :: List.replicate (m - 1) .non
theorem fl0_wf {m : Nat} (hm : 0 < m) : WFl (fl0 m) m := by
  refine ⟨by unfold fl0; simp; omega, fun x hx => ?_⟩
  unfold fl0 at hx
  rcases List.mem_cons.mp hx with rfl | hx
  · exact .inr ⟨_, rfl⟩
  · exact .inl (List.eq_of_mem_replicate hx)
theorem gen_single {m a : Nat} (h : Gen [m] a) : a % m = 0 := by
  induction h with
  | zero => exact Nat.zero_mod _
  | add hc _ ih =>
    have := List.mem_singleton.mp hc
    subst this
    rw [Nat.add_mod_right]; exact ih
theorem tab_start {m : Nat} (hm : 0 < m) : Tab [m] m (fl0 m) := by
  refine ⟨fl0_wf hm, fun r v e => ?_, fun a ha => ?_⟩
  · cases r with
    | zero =>
      cases e
      exact ⟨0, rfl, .zero, Nat.zero_mod _⟩
    | succ r =>
      have e : (List.replicate (m - 1) D.non)[r]? = some (.int v) := e
      have := List.mem_of_getElem? e
      have := List.eq_of_mem_replicate this
      cases this
  · rw [gen_single ha]
    exact ⟨0, rfl, by omega⟩
/-- payable just where the table says so -/
theorem Tab.pays {S : List Nat} {m : Nat} {fl : List D} (T : Tab S m fl) (hm : m ∈ S) (c : Nat) : Gen S c ↔ Has fl (c % m) c := by
  constructor
  · exact T.cmp c
  · rintro ⟨v, e, hv⟩
    obtain ⟨a, rfl, ga, ea⟩ := T.snd _ _ e
    have hle : a ≤ c := by omega
    have hd : m ∣ c - a := Nat.dvd_of_mod_eq_zero (Nat.sub_mod_eq_zero_of_mod_eq ea.symm)
    obtain ⟨k, hk⟩ := hd
    have : c = a + k * m := by rw [Nat.mul_comm]; omega
    rw [this]
    exact ga.plus ((Gen.one hm).mul k)
/-- a table where a coin is paid anyway -/
theorem Tab.same {S : List Nat} {m c : Nat} {fl : List D} (T : Tab S m fl) (h : Gen S c) : Tab (S ++ [c]) m fl := by
  have hiff : ∀ a, Gen (S ++ [c]) a ↔ Gen S a := fun a => ⟨fun z => z.mono fun x hx => by
    rcases List.mem_append.mp hx with hx | hx
    · exact .one hx
    · rw [List.mem_singleton.mp hx]; exact h, fun z => z.sub fun x hx => List.mem_append_left _ hx⟩
  exact ⟨T.wf, fun r v e => by obtain ⟨a, h1, h2, h3⟩ := T.snd r v e; exact ⟨a, h1, (hiff a).mpr h2, h3⟩, fun a ha => T.cmp a ((hiff a).mp ha)⟩
/-- .. with a new coin -/
theorem Tab.next {S : List Nat} {m c : Nat} {fl fl' : List D} (T : Tab S m fl) (hm : 0 < m) (w : WFl fl' m) (hs : ∀ P : Nat → Int → Prop, (∀ r v, r < m → P r v → P ((r + c % m) % m) (v + c)) → Snd P fl → Snd P fl')
    (hc : ∀ r b, r < m → Has fl r b → ∀ k : Nat, Has fl' ((r + k * (c % m)) % m) (b + k * c)) : Tab (S ++ [c]) m fl' := by
  refine ⟨w, hs _ (fun r v hr ⟨a, h1, h2, h3⟩ => ⟨a + c, by rw [h1]; omega, .add (List.mem_append_right _ (List.mem_singleton.mpr rfl)) h2, by rw [Nat.add_mod, h3]⟩) (fun r v e => ?_), fun a ha => ?_⟩
  · obtain ⟨a, h1, h2, h3⟩ := T.snd r v e
    exact ⟨a, h1, h2.sub fun x hx => List.mem_append_left _ hx, h3⟩
  · obtain ⟨k, b, hb, e⟩ := gen_snoc.mp ha
    have := hc (b % m) b (Nat.mod_lt _ hm) (T.cmp b hb) k
    have e2 : (b % m + k * (c % m)) % m = a % m := by
      rw [e, Nat.add_mod, Nat.mod_mod, Nat.mul_mod, Nat.mod_mod, ← Nat.mul_mod, ← Nat.add_mod]
    rw [e2] at this
    refine this.le ?_
    rw [e]
    push_cast
    omega
/-- all filled -/
theorem Tab.full {S : List Nat} {m : Nat} {fl : List D} (T : Tab S m fl) (hm : 0 < m) (hg : gcdL S = 1) : ∃ vs : List Nat, vs.length = m ∧ fl = vs.map (fun (k : Nat) => D.int (k : Int)) := by
  have hall : ∀ r, r < m → ∃ a : Nat, fl[r]? = some (.int (a : Int)) := fun r hr => by
    obtain ⟨a, ha, e⟩ := gen_rest hg m r hm hr
    have := T.cmp a ha
    rw [e] at this
    obtain ⟨v, ev, _⟩ := this
    obtain ⟨b, rfl, _⟩ := T.snd _ _ ev
    exact ⟨b, ev⟩
  refine ⟨fl.map fun d => match d with | .int i => i.toNat | _ => 0, by rw [List.length_map]; exact T.wf.1, ?_⟩
  rw [List.map_map]
  apply List.ext_getElem?
  intro i
  rw [List.getElem?_map]
  by_cases hi : i < m
  · obtain ⟨a, e⟩ := hall i hi
    rw [e]
    show some (D.int a) = some (D.int (((a : Int).toNat : Nat) : Int))
    rw [Int.toNat_natCast]
  · rw [List.getElem?_eq_none (by rw [T.wf.1]; omega)]; rfl
/-! ### rounds -/
def pos (start step m s : Nat) : Nat := (start + s * step) % m
theorem pos_lt {start step m s : Nat} (h : 0 < m) : pos start step m s < m := Nat.mod_lt _ h
theorem pos_succ {start step m s : Nat} : (pos start step m s + step) % m = pos start step m (s + 1) := by
  unfold pos
  rw [Nat.mod_add_mod, Nat.succ_mul, Nat.add_assoc]
theorem bezout : ∀ (a b : Nat), ∃ x y : Int, x * a + y * b = (Nat.gcd a b : Nat)
  | a, b => by
    by_cases ha : a = 0
    · subst ha; exact ⟨0, 1, by simp⟩
    · obtain ⟨x, y, e⟩ := bezout (b % a) a
      refine ⟨y - x * (b / a : Nat), x, ?_⟩
      have h1 : ((b % a : Nat) : Int) = b - (b / a : Nat) * a := by
        have := Nat.mod_add_div b a
        have h2 : ((b % a : Nat) : Int) + ((a * (b / a) : Nat) : Int) = b := by exact_mod_cast this
        rw [Int.natCast_mul, Int.mul_comm] at h2
        omega
      rw [h1] at e
      rw [show Nat.gcd a b = Nat.gcd (b % a) a from Nat.gcd_rec a b, ← e, Int.sub_mul, Int.mul_sub, Int.mul_assoc]
      omega
termination_by a => a
decreasing_by exact Nat.mod_lt _ (Nat.pos_of_ne_zero ha)
/-- a number of turns from 0 on that comes to r -/
theorem turns (step m : Nat) (hm : 0 < m) (r : Nat) (hr : r < m) : ∃ t0, t0 < m / Nat.gcd step m ∧ (r % Nat.gcd step m + t0 * step) % m = r := by
  obtain ⟨x, y, e⟩ := bezout step m
  have hg : 0 < Nat.gcd step m := Nat.gcd_pos_of_pos_right _ hm
  generalize eg : Nat.gcd step m = g at *
  obtain ⟨s', hs⟩ : ∃ s', step = g * s' := by have := Nat.gcd_dvd_left step m; rw [eg] at this; exact this
  obtain ⟨n, hn⟩ : ∃ n, m = g * n := by have := Nat.gcd_dvd_right step m; rw [eg] at this; exact this
  have hn0 : 0 < n := by
    rcases Nat.eq_zero_or_pos n with h | h
    · subst h; omega
    · exact h
  have hmg : m / g = n := by rw [hn]; exact Nat.mul_div_cancel_left _ hg
  -- q = r / g; t0 = (q * x) mod n
  let T : Int := ((r / g : Nat) : Int) * x
  have hT0 : 0 ≤ T % n := Int.emod_nonneg _ (by omega)
  have hT1 : T % n < n := Int.emod_lt_of_pos _ (by omega)
  refine ⟨(T % n).toNat, by omega, ?_⟩
  have hc : (((T % n).toNat : Nat) : Int) = T % n := Int.toNat_of_nonneg hT0
  -- as integers
  have key : (((r % g + (T % n).toNat * step : Nat)) : Int) = r + m * (- ((r / g : Nat) : Int) * y - (T / n) * s') := by
    have h1 : (r : Int) = (r % g : Nat) + g * ((r / g : Nat) : Int) := by have := Nat.mod_add_div r g; exact_mod_cast this.symm
    have h2 : T % n = T - n * (T / n) := by have := Int.emod_add_mul_ediv T n; omega
    rw [Int.natCast_add, Int.natCast_mul, hc, h2, hs, hn, Int.natCast_mul, Int.natCast_mul]
    rw [hs, hn, Int.natCast_mul, Int.natCast_mul] at e
    have h3 : T * (g * s' : Int) = ((r / g : Nat) : Int) * (g - y * (g * n)) := by
      show ((r / g : Nat) : Int) * x * (g * s') = _
      rw [Int.mul_assoc]
      congr 1
      omega
    rw [Int.sub_mul, h3, h1]
    have e1 : ((r / g : Nat) : Int) * (g - y * (g * n)) = g * ((r / g : Nat) : Int) - g * n * (((r / g : Nat) : Int) * y) := by
      rw [Int.mul_sub]
      have : ((r / g : Nat) : Int) * (y * (g * n)) = g * n * (((r / g : Nat) : Int) * y) := by
        rw [Int.mul_comm y, Int.mul_left_comm]
      rw [this, Int.mul_comm]
    have e2 : (n : Int) * (T / n) * (g * s') = g * n * (T / n * s') := by
      rw [Int.mul_comm (g : Int) n, Int.mul_assoc, Int.mul_assoc]
      congr 1
      rw [Int.mul_left_comm]
    rw [e1, e2, Int.mul_sub, Int.neg_mul, Int.mul_neg]
    have h4 : ((((r % g : Nat) : Int) + g * ((r / g : Nat) : Int)).toNat : Int) = r := by omega
    omega
  have k2 : ((r % g + (T % n).toNat * step) % m : Nat) = r := by
    have h5 : (((r % g + (T % n).toNat * step) % m : Nat) : Int) = (r : Int) % m := by
      rw [Int.natCast_emod, key, Int.add_mul_emod_self_left]
    have h6 : (r : Int) % m = r := Int.emod_eq_of_lt (by omega) (by omega)
    rw [h6] at h5
    exact Int.natCast_inj.mp h5
  exact k2
/-- n rounds are none -/
theorem round_mod (step m r j : Nat) (hm : 0 < m) : (r + j * step) % m = (r + j % (m / Nat.gcd step m) * step) % m := by
  have hg : 0 < Nat.gcd step m := Nat.gcd_pos_of_pos_right _ hm
  obtain ⟨s', hs⟩ := Nat.gcd_dvd_left step m
  obtain ⟨n, hn⟩ := Nat.gcd_dvd_right step m
  generalize Nat.gcd step m = g at *
  have hmg : m / g = n := by rw [hn]; exact Nat.mul_div_cancel_left _ hg
  rw [hmg]
  have h1 : j * step = j % n * step + m * (j / n * s') := by
    have h2 := Nat.mod_add_div j n
    conv => lhs; rw [← h2]
    rw [Nat.add_mul]
    congr 1
    rw [hs, hn]
    ac_rfl
  rw [h1, ← Nat.add_assoc, Nat.add_mul_mod_self_left]
end L3

/-! G2: == and in over numbers, needed coins. -/
namespace L3
open PySem PySem.Spec PyProof.Rows L2
def pyI (L : List Int) : List PyData := L.map PyData.int
theorem toPys_int : ∀ L : List Int, toPys (L.map D.int) = some (pyI L)
  | [] => by rw [List.map_nil, toPys] <;> rfl
  | a :: L => by
    rw [List.map_cons, toPys, toPys_int L, toPy] <;> rfl
theorem canLayAll_int : ∀ L : List Int, PyData.canLayAll0 (pyI L) = true
  | [] => by simp [pyI, PyData.canLayAll0]
  | a :: L => by
    have := canLayAll_int L
    unfold pyI at *
    rw [List.map_cons, PyData.canLayAll0, this]
    simp [PyData.canLay0]
theorem depthAll_int : ∀ L : List Int, PyData.depthAll (pyI L) = 0
  | [] => by simp [pyI, PyData.depthAll]
  | a :: L => by
    have := depthAll_int L
    unfold pyI at *
    rw [List.map_cons, PyData.depthAll, this]
    simp [PyData.depth]
theorem shaped_lst (L : List Int) : SeqAt.shaped (.list (pyI L)) = true := by
  unfold SeqAt.shaped
  rw [show PyData.canLay0 (.list (pyI L)) = PyData.canLayAll0 (pyI L) by simp [PyData.canLay0], canLayAll_int, show PyData.depth (.list (pyI L)) = PyData.depthAll (pyI L) + 1 by simp [PyData.depth], depthAll_int]
  rfl
theorem shaped_tup (L : List Int) : SeqAt.shaped (.tuple (pyI L)) = true := by
  unfold SeqAt.shaped
  rw [show PyData.canLay0 (.tuple (pyI L)) = PyData.canLayAll0 (pyI L) by simp [PyData.canLay0], canLayAll_int, show PyData.depth (.tuple (pyI L)) = PyData.depthAll (pyI L) + 1 by simp [PyData.depth], depthAll_int]
  rfl
theorem shaped_int (i : Int) : SeqAt.shaped (.int i) = true := by
  unfold SeqAt.shaped
  simp [PyData.canLay0, PyData.depth]
theorem eqv_int (i j : Int) : PyData.eqv (.int i) (.int j) = decide (i = j) := by
  rw [PyData.eqv]
  by_cases h : i = j
  · rw [decide_eq_true h, h]; simp
  · rw [decide_eq_false h]; simpa using h
theorem eqvAll_int : ∀ L M : List Int, PyData.eqvAll (pyI L) (pyI M) = decide (L = M)
  | [], [] => by simp [pyI, PyData.eqvAll]
  | [], b :: M => by simp [pyI, PyData.eqvAll]
  | a :: L, [] => by simp [pyI, PyData.eqvAll]
  | a :: L, b :: M => by
    show PyData.eqvAll (.int a :: pyI L) (.int b :: pyI M) = _
    rw [PyData.eqvAll, eqv_int, eqvAll_int L M]
    by_cases h1 : a = b <;> by_cases h2 : L = M <;> simp [h1, h2]
/-- [..] == [..] -/
theorem eqD_lst (L M : List Int) : eqD (.lst (L.map D.int)) (.lst (M.map D.int)) = some (decide (L = M)) := by
  unfold eqD
  rw [toPy, toPys_int, toPy, toPys_int]
  show (if SeqAt.shaped (.list (pyI L)) && SeqAt.shaped (.list (pyI M)) then some (PyData.eqv (.list (pyI L)) (.list (pyI M))) else none) = _
  rw [shaped_lst, shaped_lst, PyData.eqv, eqvAll_int]
  rfl
theorem eqD_tup (L M : List Int) : eqD (.tup (L.map D.int)) (.tup (M.map D.int)) = some (decide (L = M)) := by
  unfold eqD
  rw [toPy, toPys_int, toPy, toPys_int]
  show (if SeqAt.shaped (.tuple (pyI L)) && SeqAt.shaped (.tuple (pyI M)) then some (PyData.eqv (.tuple (pyI L)) (.tuple (pyI M))) else none) = _
  rw [shaped_tup, shaped_tup, PyData.eqv, eqvAll_int]
  rfl
theorem any_int (i : Int) : ∀ L : List Int, (pyI L).any (fun z => PyData.eqv z (.int i)) = decide (i ∈ L)
  | [] => by simp [pyI]
  | a :: L => by
    have ih := any_int i L
    unfold pyI at *
    rw [List.map_cons, List.any_cons, ih, eqv_int]
    by_cases h1 : a = i
    · subst h1; simp
    · by_cases h2 : i ∈ L
      · simp [h1, h2]
      · have : ¬ i = a := fun z => h1 z.symm
        simp [h1, h2, this]
theorem inP_tup (i : Int) (L : List Int) : inP (.int i) (.tup (L.map D.int)) = some (decide (i ∈ L)) := by
  unfold inP
  rw [toPy, toPy, toPys_int]
  show (if SeqAt.shaped (.tuple (pyI L)) && SeqAt.shaped (.int i) then some ((pyI L).any fun z => PyData.eqv z (.int i)) else none) = _
  rw [shaped_tup, shaped_int, any_int]; rfl
theorem inP_lst (i : Int) (L : List Int) : inP (.int i) (.lst (L.map D.int)) = some (decide (i ∈ L)) := by
  unfold inP
  rw [toPy, toPy, toPys_int]
  show (if SeqAt.shaped (.list (pyI L)) && SeqAt.shaped (.int i) then some ((pyI L).any fun z => PyData.eqv z (.int i)) else none) = _
  rw [shaped_lst, shaped_int, any_int]; rfl
/-! ### lists of natural numbers -/
def intN (L : List Nat) : List D := L.map fun (k : Nat) => D.int (k : Int)
theorem intN_len (L : List Nat) : (intN L).length = L.length := by simp [intN]
theorem intN_eq (L : List Nat) : intN L = (L.map fun (k : Nat) => (k : Int)).map D.int := by unfold intN; rw [List.map_map]; rfl
theorem asI_int : ∀ L : List Int, asI (L.map D.int) = some L
  | [] => rfl
  | a :: L => by
    show (match asI (L.map D.int) with | some r => some (a :: r) | none => none) = _
    rw [asI_int L]
theorem asI_intN (L : List Nat) : asI (intN L) = some (L.map fun (k : Nat) => (k : Int)) := by rw [intN_eq, asI_int]
theorem castL_inj {L M : List Nat} : L.map (fun (k : Nat) => (k : Int)) = M.map (fun (k : Nat) => (k : Int)) ↔ L = M := by
  constructor
  · intro h
    have := congrArg (List.map Int.toNat) h
    simpa [List.map_map, Function.comp_def] using this
  · intro h; rw [h]
theorem mem_castL {L : List Nat} {k : Nat} : (k : Int) ∈ L.map (fun (k : Nat) => (k : Int)) ↔ k ∈ L := by
  rw [List.mem_map]
  constructor
  · rintro ⟨j, hj, e⟩
    have : j = k := by omega
    rwa [← this]
  · intro h; exact ⟨k, h, rfl⟩
theorem intN_get {L : List Nat} {i : Nat} {k : Nat} (h : L[i]? = some k) : (intN L)[i]? = some (.int (k : Int)) := by unfold intN; rw [List.getElem?_map, h]; rfl
theorem inP_intN (k : Nat) (L : List Nat) : inP (.int (k : Int)) (.tup (intN L)) = some (decide (k ∈ L)) := by
  rw [intN_eq, inP_tup]
  congr 1
  by_cases h : k ∈ L
  · rw [decide_eq_true h, decide_eq_true (mem_castL.mpr h)]
  · rw [decide_eq_false h, decide_eq_false fun z => h (mem_castL.mp z)]
theorem cut_take (xs : List D) (k : Nat) (h : k ≤ xs.length) : cut xs none (some (k : Int)) = xs.take k := by
  unfold cut
  rw [HT.sIx_none, show HT.sIx xs.length xs.length (some (k : Int)) = min k xs.length from HT.sIx_nat _ _ k]
  rw [Nat.min_eq_left h]
  simp
theorem cut_drop1 (x : D) (xs : List D) : cut (x :: xs) (some 1) none = xs := by
  unfold cut
  rw [HT.sIx_none, show HT.sIx (x :: xs).length 0 (some 1) = min 1 (x :: xs).length from HT.sIx_nat _ _ 1]
  have : min 1 (x :: xs).length = 1 := by simp
  rw [this]
  simp
theorem intN_take (L : List Nat) (k : Nat) : (intN L).take k = intN (L.take k) := by unfold intN; rw [List.map_take]
/-! ### needed coins -/
/-- of coins in their order, those that the ones ahead do not pay -/
noncomputable def ndF : List Nat → List Nat → List Nat
  | _, [] => []
  | S, c :: r => (if gb S c then [] else [c]) ++ ndF (S ++ [c]) r
theorem ndF_snoc : ∀ (S ps : List Nat) (c : Nat), ndF S (ps ++ [c]) = ndF S ps ++ (if gb (S ++ ps) c then [] else [c])
  | S, [], c => by
    show (if gb S c then [] else [c]) ++ ndF (S ++ [c]) [] = ndF S [] ++ _
    rw [List.append_nil S]
    show (if gb S c then [] else [c]) ++ [] = [] ++ _
    rw [List.append_nil, List.nil_append]
  | S, p :: ps, c => by
    show (if gb S p then [] else [p]) ++ ndF (S ++ [p]) (ps ++ [c]) = ((if gb S p then [] else [p]) ++ ndF (S ++ [p]) ps) ++ _
    rw [ndF_snoc (S ++ [p]) ps c, List.append_assoc, List.append_assoc]
    rfl
theorem gen_nil {n : Nat} (h : Gen [] n) : n = 0 := by
  cases h with
  | zero => rfl
  | add hc _ => cases hc
theorem gb_nil {m : Nat} (hm : 0 < m) : gb [] m = false := gb_no.mpr fun h => by have := gen_nil h; omega
theorem ndF_len : ∀ (S L : List Nat), (ndF S L).length ≤ L.length
  | _, [] => Nat.le_refl _
  | S, c :: r => by
    have := ndF_len (S ++ [c]) r
    show ((if gb S c then [] else [c]) ++ ndF (S ++ [c]) r).length ≤ r.length + 1
    rw [List.length_append]
    split <;> simp <;> omega
theorem ndF_sub : ∀ (S L : List Nat), ∀ c ∈ ndF S L, c ∈ L
  | _, [], c, h => by cases h
  | S, a :: r, c, h => by
    have h : c ∈ (if gb S a then [] else [a]) ++ ndF (S ++ [a]) r := h
    rcases List.mem_append.mp h with h | h
    · split at h
      · cases h
      · rw [List.mem_singleton.mp h]; exact List.mem_cons_self
    · exact List.mem_cons_of_mem _ (ndF_sub _ _ c h)
/-- the needed ones pay all -/
theorem ndF_gen : ∀ (S L T : List Nat), (∀ c ∈ S, Gen T c) → (∀ c ∈ ndF S L, c ∈ T) → ∀ c ∈ L, Gen T c
  | _, [], _, _, _, c, h => by cases h
  | S, a :: r, T, hs, ht, c, h => by
    have ht : ∀ c ∈ (if gb S a then [] else [a]) ++ ndF (S ++ [a]) r, c ∈ T := ht
    have ha : Gen T a := by
      cases hb : gb S a with
      | true => exact (gb_iff.mp hb).mono hs
      | false =>
        rw [hb] at ht
        exact .one (ht a (List.mem_append_left _ (List.mem_singleton.mpr rfl)))
    rcases List.mem_cons.mp h with rfl | h
    · exact ha
    · refine ndF_gen (S ++ [a]) r T (fun c hc => ?_) (fun c hc => ht c (List.mem_append_right _ hc)) c h
      rcases List.mem_append.mp hc with hc | hc
      · exact hs c hc
      · rw [List.mem_singleton.mp hc]; exact ha
end L3

/-! G3: finite sums. -/
namespace L3
def sm (f : Nat → Int) : Nat → Int
  | 0 => 0
  | n + 1 => sm f n + f n
theorem sm_congr {f g : Nat → Int} : ∀ n, (∀ k, k < n → f k = g k) → sm f n = sm g n
  | 0, _ => rfl
  | n + 1, h => by
    show sm f n + f n = sm g n + g n
    rw [sm_congr n (fun k hk => h k (by omega)), h n (by omega)]
theorem sm_add (f g : Nat → Int) : ∀ n, sm (fun k => f k + g k) n = sm f n + sm g n
  | 0 => rfl
  | n + 1 => by
    show sm (fun k => f k + g k) n + (f n + g n) = (sm f n + f n) + (sm g n + g n)
    rw [sm_add f g n]; omega
theorem sm_neg (f : Nat → Int) : ∀ n, sm (fun k => -f k) n = -sm f n
  | 0 => rfl
  | n + 1 => by
    show sm (fun k => -f k) n + -f n = -(sm f n + f n)
    rw [sm_neg f n]; omega
theorem sm_sub (f g : Nat → Int) (n : Nat) : sm (fun k => f k - g k) n = sm f n - sm g n := by
  have h := sm_add f (fun k => -g k) n
  rw [sm_neg] at h
  have e : sm (fun k => f k - g k) n = sm (fun k => f k + -g k) n := sm_congr n fun k _ => Int.sub_eq_add_neg
  rw [e, h]; omega
theorem sm_mul (c : Int) (f : Nat → Int) : ∀ n, sm (fun k => c * f k) n = c * sm f n
  | 0 => by show (0 : Int) = c * 0; omega
  | n + 1 => by
    show sm (fun k => c * f k) n + c * f n = c * (sm f n + f n)
    rw [sm_mul c f n, Int.mul_add]
theorem sm_zero : ∀ n, sm (fun _ => 0) n = 0
  | 0 => rfl
  | n + 1 => by show sm (fun _ => 0) n + 0 = 0; rw [sm_zero n]; rfl
theorem sm_swap (F : Nat → Nat → Int) (m : Nat) : ∀ n, sm (fun k => sm (fun j => F k j) m) n = sm (fun j => sm (fun k => F k j) n) m
  | 0 => by
    show 0 = sm (fun j => 0) m
    rw [sm_zero]
  | n + 1 => by
    show sm (fun k => sm (fun j => F k j) m) n + sm (fun j => F n j) m = sm (fun j => sm (fun k => F k j) n + F n j) m
    rw [sm_swap F m n, sm_add]
theorem sm_one (c : Int) (x0 : Nat) : ∀ N, sm (fun x => if x = x0 then c else 0) N = if x0 < N then c else 0
  | 0 => rfl
  | N + 1 => by
    show sm (fun x => if x = x0 then c else 0) N + (if N = x0 then c else 0) = _
    rw [sm_one c x0 N]
    by_cases h : N = x0
    · subst h; rw [if_neg (by omega), if_pos rfl, if_pos (by omega)]; omega
    · by_cases h2 : x0 < N
      · rw [if_pos h2, if_neg h, if_pos (by omega)]; omega
      · rw [if_neg h2, if_neg h, if_neg (by omega)]; rfl
theorem sm_ext (f : Nat → Int) (M : Nat) : ∀ N, M ≤ N → (∀ k, M ≤ k → k < N → f k = 0) → sm f N = sm f M
  | 0, h, _ => by
    have : M = 0 := by omega
    subst this; rfl
  | N + 1, h, hz => by
    by_cases e : M = N + 1
    · rw [e]
    · show sm f N + f N = _
      rw [sm_ext f M N (by omega) (fun k a b => hz k a (by omega)), hz N (by omega) (by omega)]; omega
/-- the first one apart -/
theorem sm_first (f : Nat → Int) : ∀ n, sm f (n + 1) = f 0 + sm (fun k => f (k + 1)) n
  | 0 => by show (0 : Int) + f 0 = f 0 + 0; omega
  | n + 1 => by
    show sm f (n + 1) + f (n + 1) = f 0 + (sm (fun k => f (k + 1)) n + f (n + 1))
    rw [sm_first f n]; omega
/-- a list's sum -/
theorem sm_list (f : Nat → Int) (p : Nat → Bool) : ∀ N, (((List.range N).filter p).map f).sum = sm (fun x => if p x then f x else 0) N
  | 0 => rfl
  | N + 1 => by
    rw [List.range_succ, List.filter_append, List.map_append, List.sum_append, sm_list f p N]
    show _ = sm _ N + (if p N then f N else 0)
    congr 1
    cases h : p N <;> simp [h]
theorem sm_count (xs : Nat → Nat) (k : Nat) : ∀ n, ((((List.range n).map xs).count k : Nat) : Int) = sm (fun j => if k = xs j then 1 else 0) n
  | 0 => rfl
  | n + 1 => by
    rw [List.range_succ, List.map_append, List.count_append]
    push_cast
    rw [sm_count xs k n]
    show _ = sm _ n + (if k = xs n then 1 else 0)
    congr 1
    by_cases h : k = xs n
    · rw [if_pos h, h]; simp
    · have : ¬ xs n = k := fun z => h z.symm
      simp [h, this]
/-! ### two coins -/
/-- one integer as x of one, y of other -/
theorem two_rep (a b : Nat) (ha : 0 < a) (hb : 0 < b) (hg : Nat.gcd a b = 1) (n : Int) : ∃ x y : Int, 0 ≤ x ∧ x < b ∧ n = x * a + y * b := by
  obtain ⟨u, v, e⟩ := bezoutN a b
  rw [hg] at e
  have hb' : (b : Int) ≠ 0 := by omega
  refine ⟨(n * u) % b, n * v + (n * u) / b * a, Int.emod_nonneg _ hb', Int.emod_lt_of_pos _ (by omega), ?_⟩
  have h1 := Int.emod_add_mul_ediv (n * u) b
  have h2 : (n * u) % (b : Int) = n * u - b * (n * u / b) := by omega
  rw [h2, Int.sub_mul, Int.add_mul]
  have e1 : n * u * (a : Int) + n * v * b = n := by
    have : n * (u * a + v * b) = n * 1 := by rw [e]; rfl
    rw [Int.mul_add, Int.mul_one, ← Int.mul_assoc, ← Int.mul_assoc] at this
    exact this
  have e2 : (b : Int) * (n * u / b) * a = n * u / b * a * b := by rw [Int.mul_comm (b : Int), Int.mul_assoc, Int.mul_assoc, Int.mul_comm (b : Int)]
  rw [e2]
  omega
theorem gen_two {a b n : Nat} : Gen [a, b] n ↔ ∃ i j : Nat, n = i * a + j * b := by
  constructor
  · intro h
    induction h with
    | zero => exact ⟨0, 0, by omega⟩
    | add hc _ ih =>
      obtain ⟨i, j, e⟩ := ih
      simp only [List.mem_cons, List.not_mem_nil, or_false] at hc
      rcases hc with rfl | rfl
      · exact ⟨i + 1, j, by rw [e, Nat.succ_mul]; omega⟩
      · exact ⟨i, j + 1, by rw [e, Nat.succ_mul]; omega⟩
  · rintro ⟨i, j, rfl⟩
    exact ((Gen.one (by simp)).mul i).plus ((Gen.one (by simp)).mul j)
theorem gi_two {a b : Nat} (ha : 0 < a) (hb : 0 < b) (hg : Nat.gcd a b = 1) {n x y : Int} (hx0 : 0 ≤ x) (hx1 : x < b) (e : n = x * a + y * b) : gi [a, b] n = decide (0 ≤ y) := by
  by_cases hy : 0 ≤ y
  · rw [decide_eq_true hy]
    have h0 : 0 ≤ n := by rw [e]; exact Int.add_nonneg (Int.mul_nonneg hx0 (by omega)) (Int.mul_nonneg hy (by omega))
    unfold gi
    rw [decide_eq_true h0, Bool.true_and]
    refine gb_iff.mpr (gen_two.mpr ⟨x.toNat, y.toNat, ?_⟩)
    have h1 : ((x.toNat * a + y.toNat * b : Nat) : Int) = n := by
      push_cast
      rw [Int.toNat_of_nonneg hx0, Int.toNat_of_nonneg hy, e]
    omega
  · rw [decide_eq_false hy]
    unfold gi
    by_cases h0 : 0 ≤ n
    · rw [decide_eq_true h0, Bool.true_and]
      refine gb_no.mpr fun z => ?_
      obtain ⟨i, j, eij⟩ := gen_two.mp z
      have e2 : (n : Int) = (i : Int) * a + (j : Int) * b := by
        have : ((n.toNat : Nat) : Int) = n := by omega
        rw [← this, eij]; push_cast; rfl
      -- b divides i - x
      obtain ⟨u, v, ebz⟩ := bezoutN a b
      rw [hg] at ebz
      have h3 : ((i : Int) - x) * a = (y - j) * b := by rw [Int.sub_mul, Int.sub_mul]; omega
      have h4 : (b : Int) ∣ (i : Int) - x := by
        refine ⟨u * (y - j) + v * (i - x), ?_⟩
        have h5 : ((i : Int) - x) * (u * a + v * b) = ((i : Int) - x) * 1 := by rw [ebz]; rfl
        rw [Int.mul_add, Int.mul_one] at h5
        have h6 : ((i : Int) - x) * (u * a) = u * (((i : Int) - x) * a) := by rw [Int.mul_left_comm]
        rw [h6, h3] at h5
        have h7 : u * ((y - j) * b) = b * (u * (y - j)) := by rw [← Int.mul_assoc, Int.mul_comm]
        have h8 : ((i : Int) - x) * (v * b) = b * (v * (i - x)) := by rw [Int.mul_comm v, ← Int.mul_assoc, Int.mul_comm ((i : Int) - x), Int.mul_assoc, Int.mul_comm ((i : Int) - x)]
        rw [Int.mul_add, ← h7, ← h8]
        exact h5.symm
      obtain ⟨k, hk⟩ := h4
      have hk0 : 0 ≤ k := by
        apply Classical.byContradiction
        intro hneg
        have : (b : Int) * k ≤ b * (-1) := Int.mul_le_mul_of_nonneg_left (by omega) (by omega)
        omega
      have h9 : y = j + k * a := by
        have h10 : (b : Int) * k * a = (y - j) * b := by rw [← hk]; exact h3
        have h11 : (y - j - k * a) * (b : Int) = 0 := by
          rw [Int.sub_mul, ← h10, Int.mul_comm (b : Int) k, Int.mul_assoc, Int.mul_assoc, Int.mul_comm (b : Int) (a : Int)]; omega
        have := (Int.mul_eq_zero.mp h11).resolve_right (by omega)
        omega
      have := Int.mul_nonneg hk0 (show (0 : Int) ≤ a by omega)
      omega
    · rw [decide_eq_false h0]; rfl
noncomputable def g01 (L : List Nat) (n : Int) : Int := if gi L n then 1 else 0
/-- the row of two coins times its mark, one period -/
theorem gam {a b : Nat} (ha : 0 < a) (hb : 0 < b) (hg : Nat.gcd a b = 1) (n : Int) :
    g01 [a, b] n - g01 [a, b] (n - a) - g01 [a, b] (n - b) + g01 [a, b] (n - (a + b)) = (if n = 0 then 1 else 0) - (if n = (a : Int) * b then 1 else 0) := by
  obtain ⟨x, y, x0, x1, e⟩ := two_rep a b ha hb hg n
  have c1 := gi_two ha hb hg x0 x1 e
  have c3 : gi [a, b] (n - b) = decide (0 ≤ y - 1) := gi_two ha hb hg x0 x1 (by rw [Int.sub_mul]; omega)
  by_cases hx : 1 ≤ x
  · have c2 : gi [a, b] (n - a) = decide (0 ≤ y) := gi_two ha hb hg (x := x - 1) (by omega) (by omega) (by rw [Int.sub_mul]; omega)
    have c4 : gi [a, b] (n - (a + b)) = decide (0 ≤ y - 1) := gi_two ha hb hg (x := x - 1) (by omega) (by omega) (by rw [Int.sub_mul, Int.sub_mul]; omega)
    have n0 : n ≠ 0 := fun z => by
      -- x a = -y b with 0 < x < b
      have q := gi_two ha hb hg (n := 0) (x := 0) (y := 0) (by decide) (by omega) (by omega)
      have h3 : x * (a : Int) = (-y) * b := by rw [Int.neg_mul]; omega
      have h4 : (b : Int) ∣ x := by
        obtain ⟨u, v, ebz⟩ := bezoutN a b
        rw [hg] at ebz
        refine ⟨u * (-y) + v * x, ?_⟩
        have h5 : x * (u * a + v * b) = x * 1 := by rw [ebz]; rfl
        rw [Int.mul_add, Int.mul_one] at h5
        have h6 : x * (u * a) = u * (x * a) := by rw [Int.mul_left_comm]
        rw [h6, h3] at h5
        rw [Int.mul_add]
        have h7 : u * ((-y) * b) = b * (u * (-y)) := by rw [← Int.mul_assoc, Int.mul_comm]
        have h8 : x * (v * b) = b * (v * x) := by rw [Int.mul_comm v, ← Int.mul_assoc, Int.mul_comm x, Int.mul_assoc, Int.mul_comm x]
        rw [← h7, ← h8]; exact h5.symm
      obtain ⟨k, hk⟩ := h4
      have : k ≤ 0 ∨ 1 ≤ k := by omega
      rcases this with h | h
      · have : (b : Int) * k ≤ b * 0 := Int.mul_le_mul_of_nonneg_left h (by omega)
        omega
      · have : (b : Int) * 1 ≤ b * k := Int.mul_le_mul_of_nonneg_left h (by omega)
        omega
    have nab : n ≠ (a : Int) * b := fun z => by
      have h3 : x * (a : Int) = (a - y) * b := by rw [Int.sub_mul]; omega
      have h4 : (b : Int) ∣ x := by
        obtain ⟨u, v, ebz⟩ := bezoutN a b
        rw [hg] at ebz
        refine ⟨u * (a - y) + v * x, ?_⟩
        have h5 : x * (u * a + v * b) = x * 1 := by rw [ebz]; rfl
        rw [Int.mul_add, Int.mul_one] at h5
        have h6 : x * (u * a) = u * (x * a) := by rw [Int.mul_left_comm]
        rw [h6, h3] at h5
        rw [Int.mul_add]
        have h7 : u * ((a - y) * b) = b * (u * (a - y)) := by rw [← Int.mul_assoc, Int.mul_comm]
        have h8 : x * (v * b) = b * (v * x) := by rw [Int.mul_comm v, ← Int.mul_assoc, Int.mul_comm x, Int.mul_assoc, Int.mul_comm x]
        rw [← h7, ← h8]; exact h5.symm
      obtain ⟨k, hk⟩ := h4
      have : k ≤ 0 ∨ 1 ≤ k := by omega
      rcases this with h | h
      · have : (b : Int) * k ≤ b * 0 := Int.mul_le_mul_of_nonneg_left h (by omega)
        omega
      · have : (b : Int) * 1 ≤ b * k := Int.mul_le_mul_of_nonneg_left h (by omega)
        omega
    unfold g01
    rw [c1, c2, c3, c4, if_neg n0, if_neg nab]
    cases decide (0 ≤ y) <;> cases decide (0 ≤ y - 1) <;> rfl
  · have hx0 : x = 0 := by omega
    subst hx0
    rw [Int.zero_mul, Int.zero_add] at e
    have c2 : gi [a, b] (n - a) = decide (0 ≤ y - a) := gi_two ha hb hg (x := b - 1) (by omega) (by omega) (by rw [Int.sub_mul, Int.sub_mul, Int.mul_comm (b : Int)]; omega)
    have c4 : gi [a, b] (n - (a + b)) = decide (0 ≤ y - a - 1) := gi_two ha hb hg (x := b - 1) (by omega) (by omega) (by rw [Int.sub_mul, Int.sub_mul, Int.sub_mul, Int.mul_comm (b : Int)]; omega)
    have n0 : n = 0 ↔ y = 0 := ⟨fun z => by
      rw [z] at e
      exact (Int.mul_eq_zero.mp e.symm).resolve_right (by omega), fun z => by rw [e, z, Int.zero_mul]⟩
    have nab : n = (a : Int) * b ↔ y = a := ⟨fun z => by
      have : (y - a) * (b : Int) = 0 := by rw [Int.sub_mul]; omega
      have := (Int.mul_eq_zero.mp this).resolve_right (by omega)
      omega, fun z => by rw [e, z]⟩
    unfold g01
    rw [c1, c2, c3, c4]
    by_cases h1 : y = 0
    · have : ¬ y = a := by omega
      rw [if_pos (n0.mpr h1), if_neg (fun z => this (nab.mp z))]
      rw [decide_eq_true (show 0 ≤ y by omega), decide_eq_false (show ¬ 0 ≤ y - a by omega), decide_eq_false (show ¬ 0 ≤ y - 1 by omega), decide_eq_false (show ¬ 0 ≤ y - a - 1 by omega)]
      rfl
    · rw [if_neg (fun z => h1 (n0.mp z))]
      by_cases h2 : y = a
      · rw [if_pos (nab.mpr h2)]
        rw [decide_eq_true (show 0 ≤ y by omega), decide_eq_true (show 0 ≤ y - a by omega), decide_eq_true (show 0 ≤ y - 1 by omega), decide_eq_false (show ¬ 0 ≤ y - a - 1 by omega)]
        rfl
      · rw [if_neg (fun z => h2 (nab.mp z))]
        by_cases h3 : 0 ≤ y
        · by_cases h4 : 0 ≤ y - a
          · rw [decide_eq_true h3, decide_eq_true h4, decide_eq_true (show 0 ≤ y - 1 by omega), decide_eq_true (show 0 ≤ y - a - 1 by omega)]; rfl
          · rw [decide_eq_true h3, decide_eq_false h4, decide_eq_true (show 0 ≤ y - 1 by omega), decide_eq_false (show ¬ 0 ≤ y - a - 1 by omega)]; rfl
        · rw [decide_eq_false h3, decide_eq_false (show ¬ 0 ≤ y - a by omega), decide_eq_false (show ¬ 0 ≤ y - 1 by omega), decide_eq_false (show ¬ 0 ≤ y - a - 1 by omega)]; rfl
/-- .. all periods -/
theorem gam_sum {a b : Nat} (ha : 0 < a) (hb : 0 < b) (hg : Nat.gcd a b = 1) : ∀ (B : Nat) (n : Int),
    sm (fun j => g01 [a, b] (n - j * (a * b)) - g01 [a, b] (n - a - j * (a * b)) - g01 [a, b] (n - b - j * (a * b)) + g01 [a, b] (n - (a + b) - j * (a * b))) B = (if n = 0 then 1 else 0) - (if n = (B : Int) * (a * b) then 1 else 0)
  | 0, n => by
    show (0 : Int) = _
    have : ((0 : Nat) : Int) * ((a : Int) * b) = 0 := by simp
    rw [this]; omega
  | B + 1, n => by
    rw [sm_first]
    have h0 := gam ha hb hg n
    have ih := gam_sum ha hb hg B (n - a * b)
    have e0 : ∀ z : Int, z - ((0 : Nat) : Int) * ((a : Int) * b) = z := fun z => by simp
    rw [e0, e0, e0, e0, h0]
    have e1 : sm (fun j => g01 [a, b] (n - ((j + 1 : Nat) : Int) * (a * b)) - g01 [a, b] (n - a - ((j + 1 : Nat) : Int) * (a * b)) - g01 [a, b] (n - b - ((j + 1 : Nat) : Int) * (a * b)) + g01 [a, b] (n - (a + b) - ((j + 1 : Nat) : Int) * (a * b))) B =
        sm (fun j => g01 [a, b] (n - a * b - (j : Int) * (a * b)) - g01 [a, b] (n - a * b - a - (j : Int) * (a * b)) - g01 [a, b] (n - a * b - b - (j : Int) * (a * b)) + g01 [a, b] (n - a * b - (a + b) - (j : Int) * (a * b))) B := sm_congr B fun j _ => by
      have : ((j + 1 : Nat) : Int) * ((a : Int) * b) = (j : Int) * (a * b) + a * b := by push_cast; rw [Int.add_mul]; omega
      rw [this]
      generalize (j : Int) * ((a : Int) * b) = z
      generalize (a : Int) * b = p
      congr 1
      · congr 1
        · congr 1
          · congr 1; omega
          · congr 1; omega
        · congr 1; omega
      · congr 1; omega
    rw [e1, ih]
    have e2 : (n - (a : Int) * b = 0) ↔ n = (a : Int) * b := by omega
    have e3 : (n - (a : Int) * b = (B : Int) * (a * b)) ↔ n = ((B + 1 : Nat) : Int) * (a * b) := by
      have : ((B + 1 : Nat) : Int) * ((a : Int) * b) = (B : Int) * (a * b) + a * b := by push_cast; rw [Int.add_mul]; omega
      rw [this]; omega
    by_cases q1 : n = (a : Int) * b
    · rw [if_pos (e2.mpr q1), if_pos q1]
      by_cases q2 : n = ((B + 1 : Nat) : Int) * (a * b)
      · rw [if_pos (e3.mpr q2), if_pos q2]; omega
      · rw [if_neg (fun z => q2 (e3.mp z)), if_neg q2]; omega
    · rw [if_neg (fun z => q1 (e2.mp z)), if_neg q1]
      by_cases q2 : n = ((B + 1 : Nat) : Int) * (a * b)
      · rw [if_pos (e3.mpr q2), if_pos q2]; omega
      · rw [if_neg (fun z => q2 (e3.mp z)), if_neg q2]; omega
end L3

namespace Law
open PySem PySem.Spec PyProof.Rows L2 L3
abbrev CR := Nat → List (Bool × D) → CRes
def okc (c : Cell) : Prop := c = none ∨ ∃ d, c = some (.sh, d)
def okO (c : Cell) : Prop := c = none ∨ (∃ d, c = some (.sh, d)) ∨ ∃ d, c = some (.own, d)
theorem okc_sh {d : D} : okc (some (.sh, d)) := .inr ⟨_, rfl⟩
theorem okO_sh {d : D} : okO (some (.sh, d)) := .inr (.inl ⟨_, rfl⟩)
theorem okO_ow {d : D} : okO (some (.own, d)) := .inr (.inr ⟨_, rfl⟩)
theorem okc.O {c : Cell} (h : okc c) : okO c := by rcases h with rfl | ⟨_, rfl⟩ <;> first | exact .inl rfl | exact okO_sh
theorem it_rng1 {z : Int} {en : En} (h : inB z = true) : itFin .rng1 [.v (.int z)] en = .ok (rngI 0 z.toNat) en := by
  unfold itFin
  simp [vDs, ItK.run, kRng1, h]
theorem it_rng2 {y z : Int} {en : En} (h1 : inB y = true) (h2 : inB z = true) : itFin .rng2 [.v (.int y), .v (.int z)] en = .ok (rngI y (z - y).toNat) en := by
  unfold itFin
  simp [vDs, ItK.run, kRng2, h1, h2]
theorem inB_of {T : Int} (h0 : -4000000000000000000 ≤ T) (h1 : T ≤ 4000000000000000000) : inB T = true := by unfold inB; exact decide_eq_true ⟨by omega, by omega⟩
theorem ixN_nat {n j : Nat} (h : j < n) : ixN n (j : Int) = some j := by
  unfold ixN
  rw [if_pos (by omega), if_pos (by omega)]
  simp
theorem rngI_len (a : Int) (N : Nat) : (rngI a N).length = N := by simp [rngI]
theorem mem_rngI {N : Nat} {d : D} (h : d ∈ rngI 0 N) : ∃ K : Int, d = .int K ∧ 0 ≤ K ∧ K < N := by
  unfold rngI at h
  obtain ⟨k, hk, rfl⟩ := List.mem_map.mp h
  have := List.mem_range.mp hk
  exact ⟨_, rfl, by omega, by omega⟩
theorem rngI_eq (N : Nat) : rngI 0 N = (List.range' 0 N).map fun (k : Nat) => D.int (k : Int) := by
  unfold rngI
  rw [← List.range_eq_range']
  refine List.map_congr_left fun k _ => ?_
  rw [Int.zero_add]
/-- a loop over a range, by an invariant of the turn -/
theorem frR_rng {w : Nat} {C : CR} {md : Nat → List Bool} {tg : Tg} {b : Ss} (I : Nat → En → Prop) : ∀ (N j : Nat) (en : En), I j en →
    (∀ k, j ≤ k → k < j + N → ∀ en, I k en → ∃ en', ((stR (stTg tg (.int ((k : Nat) : Int)) false en)).bind fun _ en => evSs w C md b en) = .ok .nx en' ∧ I (k + 1) en') →
    ∃ en', frR w C md tg b ((List.range' j N).map fun (k : Nat) => D.int (k : Int)) en = .ok .nx en' ∧ I (j + N) en'
  | 0, j, en, h0, _ => ⟨en, by rw [List.range'_zero, List.map_nil, frR_nil], h0⟩
  | N + 1, j, en, h0, h => by
    obtain ⟨en1, e1, i1⟩ := h j (Nat.le_refl _) (by omega) en h0
    obtain ⟨en2, e2, i2⟩ := frR_rng I N (j + 1) en1 i1 fun k hk hk2 => h k (by omega) (by omega)
    refine ⟨en2, ?_, by rw [show j + (N + 1) = j + 1 + N by omega]; exact i2⟩
    rw [List.range'_succ, List.map_cons, frR_cons, e1]
    exact e2
/-- a loop over a list, by an invariant of what is gone -/
theorem frR_lst {w : Nat} {C : CR} {md : Nat → List Bool} {tg : Tg} {b : Ss} (I : List D → En → Prop) : ∀ (xs ys : List D) (en : En), I ys en →
    (∀ (ps : List D) (x : D) (qs : List D), xs = ps ++ x :: qs → ∀ en, I (ys ++ ps) en → ∃ en', ((stR (stTg tg x false en)).bind fun _ en => evSs w C md b en) = .ok .nx en' ∧ I (ys ++ ps ++ [x]) en') →
    ∃ en', frR w C md tg b xs en = .ok .nx en' ∧ I (ys ++ xs) en'
  | [], ys, en, h0, _ => ⟨en, frR_nil, by rw [List.append_nil]; exact h0⟩
  | x :: xs, ys, en, h0, h => by
    obtain ⟨en1, e1, i1⟩ := h [] x xs rfl en (by rw [List.append_nil]; exact h0)
    rw [List.append_nil] at i1
    obtain ⟨en2, e2, i2⟩ := frR_lst I xs (ys ++ [x]) en1 i1 fun ps y qs e en hi => by
      have := h (x :: ps) y qs (by rw [e]; rfl) en (by rw [List.append_assoc] at hi; exact hi)
      rw [List.append_assoc ys [x] ps]
      exact this
    refine ⟨en2, ?_, by rw [List.append_assoc] at i2; exact i2⟩
    rw [frR_cons, e1]
    exact e2
/-- a comprehension, its parts told -/
theorem lc_val {C : CR} {md : Nat → List Bool} {vs : List Nat} {tg : Tg} {k : ItK} {as : Es} {c e : E} {en en1 en2 : En} {avs : List Av} {items xs : List D} (ha : evA C md as en = .ok avs en1) (hi : itFin k avs en1 = .ok items en1) (hs : (vs.all (shE en1) && tg.slots.all vs.contains) = true)
    (hl : lcR C md vs tg c e items [] (wipeE en1 vs) = .ok xs en2) : evE C md (.lc vs tg k as c e) en = .ok (.lst xs, true) (restE en1 en2 vs) := by
  rw [evE_lcR, ha]
  simp only [Rs.bind, hi, hs, hl]
  rfl
theorem ps_ifF {w : Nat} {C : CR} {md : Nat → List Bool} {c : E} {a : Ss} {en en1 : En} (hc : toB (evE C md c en) = .ok false en1) : Ps w C md en (.ife c a .nil) en1 := by
  unfold Ps
  rw [evS, hc]
  exact ss_nilU (w := w) (C := C) (md := md)
/-- a comprehension with a condition -/
theorem lcR_fil {C : CR} {md : Nat → List Bool} {vs : List Nat} {tg : Tg} {c e : E} {en0 : En} (p : D → Bool) (g : D → D) : ∀ (items acc : List D),
    (∀ d ∈ items, ∃ en1, stTg tg d false en0 = some en1 ∧ toB (evE C md c en1) = .ok (p d) en1 ∧ (p d = true → ∃ own, evE C md e en1 = .ok (g d, own) en1) ∧ wipeE en1 vs = en0) → acc.length + items.length ≤ sizeLine →
    lcR C md vs tg c e items acc en0 = .ok (acc ++ (items.filter p).map g) en0
  | [], acc, _, _ => by rw [lcR_nil]; simp
  | d :: ds, acc, h, hl => by
    obtain ⟨en1, e1, e2, e3, e4⟩ := h d List.mem_cons_self
    simp only [List.length_cons] at hl
    have ih := fun acc' hl' => lcR_fil p g ds acc' (fun d hd => h d (List.mem_cons_of_mem _ hd)) hl'
    rw [lcR_cons, e1]
    show (noEr (toB (evE C md c en1))).bind _ = _
    rw [e2]
    cases hp : p d with
    | true =>
      obtain ⟨own, e5⟩ := e3 hp
      show (noEr (evE C md e en1)).bind _ = _
      rw [e5]
      show (if decide (acc.length < sizeLine) = true then _ else _) = _
      rw [if_pos (decide_eq_true (by omega)), e4, ih _ (by simp; omega)]
      simp [hp]
    | false =>
      show lcR C md vs tg c e ds acc (wipeE en1 vs) = _
      rw [e4, ih _ (by omega)]
      simp [hp]
theorem lt_szM {n : Nat} (h : n < 10000000) : n < sizeLine := by rw [sizeLine_eq]; omega
theorem sz_of {n : Nat} (h : n ≤ 10000000) : n ≤ sizeLine := by rw [sizeLine_eq]; omega
/-! ### numbers -/
theorem c_isint (n : Nat) (x : Int) : callD tb WN (n + 1) 0 [(false, .int x)] = .ok (.bl true) false [none] := by
  rw [u0]; unfold fn_is_integer
  simp [L3.evSs, L3.evS.eq_1, L3.evS.eq_2, L3.evS.eq_3, L3.evS.eq_4, L3.evS.eq_5, L3.evS.eq_6, L3.evS.eq_9, L3.evS.eq_10, L3.evS.eq_11, L3.evS.eq_12, L3.evS.eq_13, L3.evS.eq_14, L3.evE.eq_1, L3.evE.eq_2, L3.evE.eq_3, L3.evE.eq_4, L3.evE.eq_5, L3.evE.eq_6, L3.evE.eq_7, L3.evE.eq_8, L3.evE.eq_9, L3.evE.eq_10, L3.evE.eq_11, L3.evE.eq_12, L3.evE.eq_13, L3.evE.eq_14, L3.evE.eq_15, L3.evE.eq_16, L3.evE.eq_18, L3.evE.eq_19, L3.evE.eq_20, L3.evE.eq_21, L3.evA, L3.evP, Law.evS_whlR, Law.evS_frR, Law.evE_lcR, Law.evS_frpR, Law.evE_lcpR, L3.walkP, L3.walkD, L3.unfzO, L3.unfz, Law.frR_nil, Law.frR_cons, Law.lcR_nil, Law.lcR_cons, L3.argOf, L3.Rs.bind, L3.opFin, L3.avDs, L3.avD, L3.vDs, L3.Op.keeps, L3.Op.run, L3.i1, L3.i2, L3.a1, L3.a2, L3.l1, L3.gd, L3.oB, L3.oI, L3.toB, L3.toI, L3.rdVar, L3.mvVar, L3.stVar, L3.stR, L3.stTg, L3.stVars, L3.stVarsO, L3.passA, L3.backA, L3.doCall, L3.cellOf, L3.start3, Law.outs1, Law.outs2, Law.outs3, Law.outs4, L3.resOf, L3.runFn, L3.keepB, L3.Ow.isB, L3.Ow.isOwn, L3.isTys, L3.isTy, L3.itFin, L3.ItK.run, L3.kRng1, L3.kRng2, L3.kSeq, L3.seqD, L3.seqD2, L3.kEnm, L3.enmD, Law.fit_of, Law.fit3, L3.noEr, L3.slFin, L3.slice3, L3.shE, L3.Tg.slots, L3.wipeE, L3.restE, L3.asB, Law.sz0, Law.sz1, Law.sz2, L3.rAdd3, L3.rLen3, L3.rLt3, L3.rIdx3, Law.at30, Law.at31, Law.at32, Law.at20, Law.at21, L3.isNone, Law.eqD_int, Law.md0, Law.md1, Law.md2, Law.md3, Law.md4, Law.md5, Law.md6, Law.md7, Law.md8, Law.md9, Law.md10, Law.md11, Law.md12, Law.md13, Law.md14, Law.md15, Law.md16, Law.md17, Law.md18, Law.md19, Law.md20, Law.md21, Law.md22, Law.md23, Law.md24, Law.md25]
theorem c_within (n : Nat) (x lo hi : Int) : callD tb WN (n + 2) 1 [(false, .int x), (false, .int lo), (false, .int hi)] = .ok (.bl (decide (lo ≤ x) && decide (x ≤ hi))) false [none, none, none] := by
  have e := c_isint n x
  rw [u1]; unfold fn_is_within
  by_cases h : lo ≤ x <;> simp [L3.evSs, L3.evS.eq_1, L3.evS.eq_2, L3.evS.eq_3, L3.evS.eq_4, L3.evS.eq_5, L3.evS.eq_6, L3.evS.eq_9, L3.evS.eq_10, L3.evS.eq_11, L3.evS.eq_12, L3.evS.eq_13, L3.evS.eq_14, L3.evE.eq_1, L3.evE.eq_2, L3.evE.eq_3, L3.evE.eq_4, L3.evE.eq_5, L3.evE.eq_6, L3.evE.eq_7, L3.evE.eq_8, L3.evE.eq_9, L3.evE.eq_10, L3.evE.eq_11, L3.evE.eq_12, L3.evE.eq_13, L3.evE.eq_14, L3.evE.eq_15, L3.evE.eq_16, L3.evE.eq_18, L3.evE.eq_19, L3.evE.eq_20, L3.evE.eq_21, L3.evA, L3.evP, Law.evS_whlR, Law.evS_frR, Law.evE_lcR, Law.evS_frpR, Law.evE_lcpR, L3.walkP, L3.walkD, L3.unfzO, L3.unfz, Law.frR_nil, Law.frR_cons, Law.lcR_nil, Law.lcR_cons, L3.argOf, L3.Rs.bind, L3.opFin, L3.avDs, L3.avD, L3.vDs, L3.Op.keeps, L3.Op.run, L3.i1, L3.i2, L3.a1, L3.a2, L3.l1, L3.gd, L3.oB, L3.oI, L3.toB, L3.toI, L3.rdVar, L3.mvVar, L3.stVar, L3.stR, L3.stTg, L3.stVars, L3.stVarsO, L3.passA, L3.backA, L3.doCall, L3.cellOf, L3.start3, Law.outs1, Law.outs2, Law.outs3, Law.outs4, L3.resOf, L3.runFn, L3.keepB, L3.Ow.isB, L3.Ow.isOwn, L3.isTys, L3.isTy, L3.itFin, L3.ItK.run, L3.kRng1, L3.kRng2, L3.kSeq, L3.seqD, L3.seqD2, L3.kEnm, L3.enmD, Law.fit_of, Law.fit3, L3.noEr, L3.slFin, L3.slice3, L3.shE, L3.Tg.slots, L3.wipeE, L3.restE, L3.asB, Law.sz0, Law.sz1, Law.sz2, L3.rAdd3, L3.rLen3, L3.rLt3, L3.rIdx3, Law.at30, Law.at31, Law.at32, Law.at20, Law.at21, L3.isNone, Law.eqD_int, Law.md0, Law.md1, Law.md2, Law.md3, Law.md4, Law.md5, Law.md6, Law.md7, Law.md8, Law.md9, Law.md10, Law.md11, Law.md12, Law.md13, Law.md14, Law.md15, Law.md16, Law.md17, Law.md18, Law.md19, Law.md20, Law.md21, Law.md22, Law.md23, Law.md24, Law.md25, e, h]
def euN : Nat → Nat → Nat → Bool
  | 0, _, _ => false
  | f + 1, a, b => if b = 0 then true else euN f b (a % b)
theorem euN_ok : ∀ (k f a b : Nat), b < 2 ^ k → 2 * k + 1 ≤ f → euN f a b = true
  | 0, f, a, b, hb, hf => by
    obtain ⟨f, rfl⟩ : ∃ g, f = g + 1 := ⟨f - 1, by omega⟩
    have : b = 0 := by simpa using hb
    simp [euN, this]
  | k + 1, f, a, b, hb, hf => by
    obtain ⟨f, rfl⟩ : ∃ g, f = g + 2 := ⟨f - 2, by omega⟩
    unfold euN
    by_cases h0 : b = 0
    · simp [h0]
    rw [if_neg h0]
    unfold euN
    by_cases h1 : a % b = 0
    · simp [h1]
    rw [if_neg h1]
    refine euN_ok k f _ _ ?_ (by omega)
    have h2 : a % b < b := Nat.mod_lt _ (by omega)
    have h3 : b % (a % b) < a % b := Nat.mod_lt _ (by omega)
    have h4 : b % (a % b) ≤ b - a % b := by
      have hq := Nat.div_add_mod b (a % b)
      have : 1 ≤ b / (a % b) := Nat.div_pos (by omega) (by omega)
      have := Nat.mul_le_mul_left (a % b) this
      omega
    have h5 : 2 ^ (k + 1) = 2 * 2 ^ k := by rw [Nat.pow_succ]; omega
    omega
theorem gl_loop (C : CR) (z : Nat) : ∀ (f a b : Nat), euN f a b = true → whlR WN C (mdOf tb) W2_0c W2_0 (f + z) [some (.sh, .int a), some (.sh, .int b)] = .ok .nx [some (.sh, .int (Nat.gcd a b)), some (.sh, .int (0 : Nat))]
  | 0, _, _, h => by cases h
  | f + 1, a, b, h => by
    rw [show f + 1 + z = (f + z) + 1 by omega, whlR_succ]
    unfold euN at h
    by_cases hb : b = 0
    · subst hb
      simp [L3.evSs, L3.evS.eq_1, L3.evS.eq_2, L3.evS.eq_3, L3.evS.eq_4, L3.evS.eq_5, L3.evS.eq_6, L3.evS.eq_9, L3.evS.eq_10, L3.evS.eq_11, L3.evS.eq_12, L3.evS.eq_13, L3.evS.eq_14, L3.evE.eq_1, L3.evE.eq_2, L3.evE.eq_3, L3.evE.eq_4, L3.evE.eq_5, L3.evE.eq_6, L3.evE.eq_7, L3.evE.eq_8, L3.evE.eq_9, L3.evE.eq_10, L3.evE.eq_11, L3.evE.eq_12, L3.evE.eq_13, L3.evE.eq_14, L3.evE.eq_15, L3.evE.eq_16, L3.evE.eq_18, L3.evE.eq_19, L3.evE.eq_20, L3.evE.eq_21, L3.evA, L3.evP, Law.evS_whlR, Law.evS_frR, Law.evE_lcR, Law.evS_frpR, Law.evE_lcpR, L3.walkP, L3.walkD, L3.unfzO, L3.unfz, Law.frR_nil, Law.frR_cons, Law.lcR_nil, Law.lcR_cons, L3.argOf, L3.Rs.bind, L3.opFin, L3.avDs, L3.avD, L3.vDs, L3.Op.keeps, L3.Op.run, L3.i1, L3.i2, L3.a1, L3.a2, L3.l1, L3.gd, L3.oB, L3.oI, L3.toB, L3.toI, L3.rdVar, L3.mvVar, L3.stVar, L3.stR, L3.stTg, L3.stVars, L3.stVarsO, L3.passA, L3.backA, L3.doCall, L3.cellOf, L3.start3, Law.outs1, Law.outs2, Law.outs3, Law.outs4, L3.resOf, L3.runFn, L3.keepB, L3.Ow.isB, L3.Ow.isOwn, L3.isTys, L3.isTy, L3.itFin, L3.ItK.run, L3.kRng1, L3.kRng2, L3.kSeq, L3.seqD, L3.seqD2, L3.kEnm, L3.enmD, Law.fit_of, Law.fit3, L3.noEr, L3.slFin, L3.slice3, L3.shE, L3.Tg.slots, L3.wipeE, L3.restE, L3.asB, Law.sz0, Law.sz1, Law.sz2, L3.rAdd3, L3.rLen3, L3.rLt3, L3.rIdx3, Law.at30, Law.at31, Law.at32, Law.at20, Law.at21, L3.isNone, Law.eqD_int, Law.md0, Law.md1, Law.md2, Law.md3, Law.md4, Law.md5, Law.md6, Law.md7, Law.md8, Law.md9, Law.md10, Law.md11, Law.md12, Law.md13, Law.md14, Law.md15, Law.md16, Law.md17, Law.md18, Law.md19, Law.md20, Law.md21, Law.md22, Law.md23, Law.md24, Law.md25, W2_0c]
    · rw [if_neg hb] at h
      have hb2 : (0 : Int) < (b : Int) := by omega
      have ih := gl_loop C z f b (a % b) h
      have eg : Nat.gcd b (a % b) = Nat.gcd a b := by rw [Nat.gcd_comm b, ← Nat.gcd_rec, Nat.gcd_comm]
      rw [eg] at ih
      simp [L3.evSs, L3.evS.eq_1, L3.evS.eq_2, L3.evS.eq_3, L3.evS.eq_4, L3.evS.eq_5, L3.evS.eq_6, L3.evS.eq_9, L3.evS.eq_10, L3.evS.eq_11, L3.evS.eq_12, L3.evS.eq_13, L3.evS.eq_14, L3.evE.eq_1, L3.evE.eq_2, L3.evE.eq_3, L3.evE.eq_4, L3.evE.eq_5, L3.evE.eq_6, L3.evE.eq_7, L3.evE.eq_8, L3.evE.eq_9, L3.evE.eq_10, L3.evE.eq_11, L3.evE.eq_12, L3.evE.eq_13, L3.evE.eq_14, L3.evE.eq_15, L3.evE.eq_16, L3.evE.eq_18, L3.evE.eq_19, L3.evE.eq_20, L3.evE.eq_21, L3.evA, L3.evP, Law.evS_whlR, Law.evS_frR, Law.evE_lcR, Law.evS_frpR, Law.evE_lcpR, L3.walkP, L3.walkD, L3.unfzO, L3.unfz, Law.frR_nil, Law.frR_cons, Law.lcR_nil, Law.lcR_cons, L3.argOf, L3.Rs.bind, L3.opFin, L3.avDs, L3.avD, L3.vDs, L3.Op.keeps, L3.Op.run, L3.i1, L3.i2, L3.a1, L3.a2, L3.l1, L3.gd, L3.oB, L3.oI, L3.toB, L3.toI, L3.rdVar, L3.mvVar, L3.stVar, L3.stR, L3.stTg, L3.stVars, L3.stVarsO, L3.passA, L3.backA, L3.doCall, L3.cellOf, L3.start3, Law.outs1, Law.outs2, Law.outs3, Law.outs4, L3.resOf, L3.runFn, L3.keepB, L3.Ow.isB, L3.Ow.isOwn, L3.isTys, L3.isTy, L3.itFin, L3.ItK.run, L3.kRng1, L3.kRng2, L3.kSeq, L3.seqD, L3.seqD2, L3.kEnm, L3.enmD, Law.fit_of, Law.fit3, L3.noEr, L3.slFin, L3.slice3, L3.shE, L3.Tg.slots, L3.wipeE, L3.restE, L3.asB, Law.sz0, Law.sz1, Law.sz2, L3.rAdd3, L3.rLen3, L3.rLt3, L3.rIdx3, Law.at30, Law.at31, Law.at32, Law.at20, Law.at21, L3.isNone, Law.eqD_int, Law.md0, Law.md1, Law.md2, Law.md3, Law.md4, Law.md5, Law.md6, Law.md7, Law.md8, Law.md9, Law.md10, Law.md11, Law.md12, Law.md13, Law.md14, Law.md15, Law.md16, Law.md17, Law.md18, Law.md19, Law.md20, Law.md21, Law.md22, Law.md23, Law.md24, Law.md25, W2_0c, W2_0, hb2, Nat.pos_of_ne_zero hb]
      simpa using ih
theorem c_common (n : Nat) (a b : Nat) (h : b < 2 ^ 1000) : callD tb WN (n + 1) 2 [(false, .int a), (false, .int b)] = .ok (.int (Nat.gcd a b)) false [none, none] := by
  rw [u2]; unfold fn_common
  have := gl_loop (callD tb WN n) (WN - 2001) 2001 a b (euN_ok 1000 2001 a b h (Nat.le_refl _))
  have e : 2001 + (WN - 2001) = WN := by decide
  rw [e] at this
  have ha : ¬ ((a : Int) < 0) := by omega
  have hb : ¬ ((b : Int) < 0) := by omega
  simp [L3.evSs, L3.evS.eq_1, L3.evS.eq_2, L3.evS.eq_3, L3.evS.eq_4, L3.evS.eq_5, L3.evS.eq_6, L3.evS.eq_9, L3.evS.eq_10, L3.evS.eq_11, L3.evS.eq_12, L3.evS.eq_13, L3.evS.eq_14, L3.evE.eq_1, L3.evE.eq_2, L3.evE.eq_3, L3.evE.eq_4, L3.evE.eq_5, L3.evE.eq_6, L3.evE.eq_7, L3.evE.eq_8, L3.evE.eq_9, L3.evE.eq_10, L3.evE.eq_11, L3.evE.eq_12, L3.evE.eq_13, L3.evE.eq_14, L3.evE.eq_15, L3.evE.eq_16, L3.evE.eq_18, L3.evE.eq_19, L3.evE.eq_20, L3.evE.eq_21, L3.evA, L3.evP, Law.evS_whlR, Law.evS_frR, Law.evE_lcR, Law.evS_frpR, Law.evE_lcpR, L3.walkP, L3.walkD, L3.unfzO, L3.unfz, Law.frR_nil, Law.frR_cons, Law.lcR_nil, Law.lcR_cons, L3.argOf, L3.Rs.bind, L3.opFin, L3.avDs, L3.avD, L3.vDs, L3.Op.keeps, L3.Op.run, L3.i1, L3.i2, L3.a1, L3.a2, L3.l1, L3.gd, L3.oB, L3.oI, L3.toB, L3.toI, L3.rdVar, L3.mvVar, L3.stVar, L3.stR, L3.stTg, L3.stVars, L3.stVarsO, L3.passA, L3.backA, L3.doCall, L3.cellOf, L3.start3, Law.outs1, Law.outs2, Law.outs3, Law.outs4, L3.resOf, L3.runFn, L3.keepB, L3.Ow.isB, L3.Ow.isOwn, L3.isTys, L3.isTy, L3.itFin, L3.ItK.run, L3.kRng1, L3.kRng2, L3.kSeq, L3.seqD, L3.seqD2, L3.kEnm, L3.enmD, Law.fit_of, Law.fit3, L3.noEr, L3.slFin, L3.slice3, L3.shE, L3.Tg.slots, L3.wipeE, L3.restE, L3.asB, Law.sz0, Law.sz1, Law.sz2, L3.rAdd3, L3.rLen3, L3.rLt3, L3.rIdx3, Law.at30, Law.at31, Law.at32, Law.at20, Law.at21, L3.isNone, Law.eqD_int, Law.md0, Law.md1, Law.md2, Law.md3, Law.md4, Law.md5, Law.md6, Law.md7, Law.md8, Law.md9, Law.md10, Law.md11, Law.md12, Law.md13, Law.md14, Law.md15, Law.md16, Law.md17, Law.md18, Law.md19, Law.md20, Law.md21, Law.md22, Law.md23, Law.md24, Law.md25, ha, hb, this]
theorem cof_loop (n : Nat) (k : D) : ∀ (L : List Nat) (g : Nat) (c : Cell), okc c → (∀ x ∈ L, x < 2 ^ 1000) → ∃ c', okc c' ∧ frR WN (callD tb WN (n + 1)) (mdOf tb) (.nm 2) F3_0 (intN L) [some (.sh, k), some (.sh, .int g), c] = .ok .nx [some (.sh, k), some (.sh, .int (L.foldl Nat.gcd g : Nat)), c']
  | [], g, c, h, _ => ⟨c, h, frR_nil⟩
  | x :: L, g, c, h, hx => by
    have e := c_common n g x (hx x List.mem_cons_self)
    obtain ⟨c', h', f⟩ := cof_loop n k L (Nat.gcd g x) (some (.sh, .int x)) okc_sh fun y hy => hx y (List.mem_cons_of_mem _ hy)
    refine ⟨c', h', ?_⟩
    show frR _ _ _ _ _ (.int x :: intN L) _ = _
    rw [frR_cons]
    have e2 : ((stR (stTg (.nm 2) (.int x) false [some (.sh, k), some (.sh, .int g), c])).bind fun _ en => evSs WN (callD tb WN (n + 1)) (mdOf tb) F3_0 en) = .ok .nx [some (.sh, k), some (.sh, .int (Nat.gcd g x : Nat)), some (.sh, .int x)] := by
      rcases h with rfl | ⟨_, rfl⟩ <;> simp [L3.evSs, L3.evS.eq_1, L3.evS.eq_2, L3.evS.eq_3, L3.evS.eq_4, L3.evS.eq_5, L3.evS.eq_6, L3.evS.eq_9, L3.evS.eq_10, L3.evS.eq_11, L3.evS.eq_12, L3.evS.eq_13, L3.evS.eq_14, L3.evE.eq_1, L3.evE.eq_2, L3.evE.eq_3, L3.evE.eq_4, L3.evE.eq_5, L3.evE.eq_6, L3.evE.eq_7, L3.evE.eq_8, L3.evE.eq_9, L3.evE.eq_10, L3.evE.eq_11, L3.evE.eq_12, L3.evE.eq_13, L3.evE.eq_14, L3.evE.eq_15, L3.evE.eq_16, L3.evE.eq_18, L3.evE.eq_19, L3.evE.eq_20, L3.evE.eq_21, L3.evA, L3.evP, Law.evS_whlR, Law.evS_frR, Law.evE_lcR, Law.evS_frpR, Law.evE_lcpR, L3.walkP, L3.walkD, L3.unfzO, L3.unfz, Law.frR_nil, Law.frR_cons, Law.lcR_nil, Law.lcR_cons, L3.argOf, L3.Rs.bind, L3.opFin, L3.avDs, L3.avD, L3.vDs, L3.Op.keeps, L3.Op.run, L3.i1, L3.i2, L3.a1, L3.a2, L3.l1, L3.gd, L3.oB, L3.oI, L3.toB, L3.toI, L3.rdVar, L3.mvVar, L3.stVar, L3.stR, L3.stTg, L3.stVars, L3.stVarsO, L3.passA, L3.backA, L3.doCall, L3.cellOf, L3.start3, Law.outs1, Law.outs2, Law.outs3, Law.outs4, L3.resOf, L3.runFn, L3.keepB, L3.Ow.isB, L3.Ow.isOwn, L3.isTys, L3.isTy, L3.itFin, L3.ItK.run, L3.kRng1, L3.kRng2, L3.kSeq, L3.seqD, L3.seqD2, L3.kEnm, L3.enmD, Law.fit_of, Law.fit3, L3.noEr, L3.slFin, L3.slice3, L3.shE, L3.Tg.slots, L3.wipeE, L3.restE, L3.asB, Law.sz0, Law.sz1, Law.sz2, L3.rAdd3, L3.rLen3, L3.rLt3, L3.rIdx3, Law.at30, Law.at31, Law.at32, Law.at20, Law.at21, L3.isNone, Law.eqD_int, Law.md0, Law.md1, Law.md2, Law.md3, Law.md4, Law.md5, Law.md6, Law.md7, Law.md8, Law.md9, Law.md10, Law.md11, Law.md12, Law.md13, Law.md14, Law.md15, Law.md16, Law.md17, Law.md18, Law.md19, Law.md20, Law.md21, Law.md22, Law.md23, Law.md24, Law.md25, F3_0, e]
    rw [e2]
    exact f
theorem c_common_of (n : Nat) (L : List Nat) (k : D) (hk : k = .tup (intN L) ∨ k = .lst (intN L)) (hx : ∀ x ∈ L, x < 2 ^ 1000) : callD tb WN (n + 2) 3 [(false, k)] = .ok (.int (gcdL L : Nat)) false [none] := by
  obtain ⟨c', _, f⟩ := cof_loop n k L 0 none (.inl rfl) hx
  rw [foldl_gcd0] at f
  rw [u3]; unfold fn_common_of
  have f' : frR WN (callD tb WN (n + 1)) (mdOf tb) (.nm 2) F3_0 (intN L) [some (.sh, k), some (.sh, .int 0), none] = .ok .nx [some (.sh, k), some (.sh, .int (gcdL L : Nat)), c'] := f
  generalize ((gcdL L : Nat) : Int) = g at *
  generalize intN L = X at *
  rcases hk with rfl | rfl <;> simp [L3.evSs, L3.evS.eq_1, L3.evS.eq_2, L3.evS.eq_3, L3.evS.eq_4, L3.evS.eq_5, L3.evS.eq_6, L3.evS.eq_9, L3.evS.eq_10, L3.evS.eq_11, L3.evS.eq_12, L3.evS.eq_13, L3.evS.eq_14, L3.evE.eq_1, L3.evE.eq_2, L3.evE.eq_3, L3.evE.eq_4, L3.evE.eq_5, L3.evE.eq_6, L3.evE.eq_7, L3.evE.eq_8, L3.evE.eq_9, L3.evE.eq_10, L3.evE.eq_11, L3.evE.eq_12, L3.evE.eq_13, L3.evE.eq_14, L3.evE.eq_15, L3.evE.eq_16, L3.evE.eq_18, L3.evE.eq_19, L3.evE.eq_20, L3.evE.eq_21, L3.evA, L3.evP, Law.evS_whlR, Law.evS_frR, Law.evE_lcR, Law.evS_frpR, Law.evE_lcpR, L3.walkP, L3.walkD, L3.unfzO, L3.unfz, L3.argOf, L3.Rs.bind, L3.opFin, L3.avDs, L3.avD, L3.vDs, L3.Op.keeps, L3.Op.run, L3.i1, L3.i2, L3.a1, L3.a2, L3.l1, L3.gd, L3.oB, L3.oI, L3.toB, L3.toI, L3.rdVar, L3.mvVar, L3.stVar, L3.stR, L3.stTg, L3.stVars, L3.stVarsO, L3.passA, L3.backA, L3.doCall, L3.cellOf, L3.start3, Law.outs1, Law.outs2, Law.outs3, Law.outs4, L3.resOf, L3.runFn, L3.keepB, L3.Ow.isB, L3.Ow.isOwn, L3.isTys, L3.isTy, L3.itFin, L3.ItK.run, L3.kRng1, L3.kRng2, L3.kSeq, L3.seqD, L3.seqD2, L3.kEnm, L3.enmD, Law.fit_of, Law.fit3, L3.noEr, L3.slFin, L3.slice3, L3.shE, L3.Tg.slots, L3.wipeE, L3.restE, L3.asB, Law.sz0, Law.sz1, Law.sz2, L3.rAdd3, L3.rLen3, L3.rLt3, L3.rIdx3, Law.at30, Law.at31, Law.at32, Law.at20, Law.at21, L3.isNone, Law.eqD_int, Law.md0, Law.md1, Law.md2, Law.md3, Law.md4, Law.md5, Law.md6, Law.md7, Law.md8, Law.md9, Law.md10, Law.md11, Law.md12, Law.md13, Law.md14, Law.md15, Law.md16, Law.md17, Law.md18, Law.md19, Law.md20, Law.md21, Law.md22, Law.md23, Law.md24, Law.md25, f']
end Law


namespace Law
open PySem PySem.Spec PyProof.Rows L2 L3
/-! ### round_up -/
theorem ru_body (C : CR) (fl : List D) (coin step m g start hI tI : Int) (h t : Nat) (k : Int) (c7 c8 : Cell) (h7 : okc c7) (h8 : okc c8) (x y : D)
    (hm : 0 < m) (ht : (hI + step) % m = tI) (x1 : fl[h]? = some x) (y1 : fl[t]? = some y) (x2 : atI fl hI = some x) (y2 : atI fl tI = some y) (t2 : ixN fl.length tI = some t) (hx : isNI x) (hy : isNI y) :
    ((stR (stTg (.nm 7) (.int k) false [some (.brw, .lst fl), some (.sh, .int coin), some (.sh, .int step), some (.sh, .int m), some (.sh, .int g), some (.sh, .int start), some (.sh, .int hI), c7, c8])).bind fun _ en => evSs WN C (mdOf tb) F5_1 en)
    = .ok .nx [some (.brw, .lst (stepL coin fl h t)), some (.sh, .int coin), some (.sh, .int step), some (.sh, .int m), some (.sh, .int g), some (.sh, .int start), some (.sh, .int tI), some (.sh, .int k), some (.sh, .int tI)] := by
  unfold stepL
  rw [x1, y1]
  rcases hx with rfl | ⟨v, rfl⟩
  · rcases h7 with rfl | ⟨_, rfl⟩ <;> rcases h8 with rfl | ⟨_, rfl⟩ <;> simp [L3.evSs, L3.evS.eq_1, L3.evS.eq_2, L3.evS.eq_3, L3.evS.eq_4, L3.evS.eq_5, L3.evS.eq_6, L3.evS.eq_9, L3.evS.eq_10, L3.evS.eq_11, L3.evS.eq_12, L3.evS.eq_13, L3.evS.eq_14, L3.evE.eq_1, L3.evE.eq_2, L3.evE.eq_3, L3.evE.eq_4, L3.evE.eq_5, L3.evE.eq_6, L3.evE.eq_7, L3.evE.eq_8, L3.evE.eq_9, L3.evE.eq_10, L3.evE.eq_11, L3.evE.eq_12, L3.evE.eq_13, L3.evE.eq_14, L3.evE.eq_15, L3.evE.eq_16, L3.evE.eq_18, L3.evE.eq_19, L3.evE.eq_20, L3.evE.eq_21, L3.evA, L3.evP, Law.evS_whlR, Law.evS_frR, Law.evE_lcR, Law.evS_frpR, Law.evE_lcpR, L3.walkP, L3.walkD, L3.unfzO, L3.unfz, Law.frR_nil, Law.frR_cons, Law.lcR_nil, Law.lcR_cons, L3.argOf, L3.Rs.bind, L3.opFin, L3.avDs, L3.avD, L3.vDs, L3.Op.keeps, L3.Op.run, L3.i1, L3.i2, L3.a1, L3.a2, L3.l1, L3.gd, L3.oB, L3.oI, L3.toB, L3.toI, L3.rdVar, L3.mvVar, L3.stVar, L3.stR, L3.stTg, L3.stVars, L3.stVarsO, L3.passA, L3.backA, L3.doCall, L3.cellOf, L3.start3, Law.outs1, Law.outs2, Law.outs3, Law.outs4, L3.resOf, L3.runFn, L3.keepB, L3.Ow.isB, L3.Ow.isOwn, L3.isTys, L3.isTy, L3.itFin, L3.ItK.run, L3.kRng1, L3.kRng2, L3.kSeq, L3.seqD, L3.seqD2, L3.kEnm, L3.enmD, Law.fit_of, Law.fit3, L3.noEr, L3.slFin, L3.slice3, L3.shE, L3.Tg.slots, L3.wipeE, L3.restE, L3.asB, Law.sz0, Law.sz1, Law.sz2, L3.rAdd3, L3.rLen3, L3.rLt3, L3.rIdx3, Law.at30, Law.at31, Law.at32, Law.at20, Law.at21, L3.isNone, Law.eqD_int, Law.md0, Law.md1, Law.md2, Law.md3, Law.md4, Law.md5, Law.md6, Law.md7, Law.md8, Law.md9, Law.md10, Law.md11, Law.md12, Law.md13, Law.md14, Law.md15, Law.md16, Law.md17, Law.md18, Law.md19, Law.md20, Law.md21, Law.md22, Law.md23, Law.md24, Law.md25, F5_1, hm, ht, x2, y2, t2]
  · rcases hy with rfl | ⟨u, rfl⟩
    · rcases h7 with rfl | ⟨_, rfl⟩ <;> rcases h8 with rfl | ⟨_, rfl⟩ <;> simp [L3.evSs, L3.evS.eq_1, L3.evS.eq_2, L3.evS.eq_3, L3.evS.eq_4, L3.evS.eq_5, L3.evS.eq_6, L3.evS.eq_9, L3.evS.eq_10, L3.evS.eq_11, L3.evS.eq_12, L3.evS.eq_13, L3.evS.eq_14, L3.evE.eq_1, L3.evE.eq_2, L3.evE.eq_3, L3.evE.eq_4, L3.evE.eq_5, L3.evE.eq_6, L3.evE.eq_7, L3.evE.eq_8, L3.evE.eq_9, L3.evE.eq_10, L3.evE.eq_11, L3.evE.eq_12, L3.evE.eq_13, L3.evE.eq_14, L3.evE.eq_15, L3.evE.eq_16, L3.evE.eq_18, L3.evE.eq_19, L3.evE.eq_20, L3.evE.eq_21, L3.evA, L3.evP, Law.evS_whlR, Law.evS_frR, Law.evE_lcR, Law.evS_frpR, Law.evE_lcpR, L3.walkP, L3.walkD, L3.unfzO, L3.unfz, Law.frR_nil, Law.frR_cons, Law.lcR_nil, Law.lcR_cons, L3.argOf, L3.Rs.bind, L3.opFin, L3.avDs, L3.avD, L3.vDs, L3.Op.keeps, L3.Op.run, L3.i1, L3.i2, L3.a1, L3.a2, L3.l1, L3.gd, L3.oB, L3.oI, L3.toB, L3.toI, L3.rdVar, L3.mvVar, L3.stVar, L3.stR, L3.stTg, L3.stVars, L3.stVarsO, L3.passA, L3.backA, L3.doCall, L3.cellOf, L3.start3, Law.outs1, Law.outs2, Law.outs3, Law.outs4, L3.resOf, L3.runFn, L3.keepB, L3.Ow.isB, L3.Ow.isOwn, L3.isTys, L3.isTy, L3.itFin, L3.ItK.run, L3.kRng1, L3.kRng2, L3.kSeq, L3.seqD, L3.seqD2, L3.kEnm, L3.enmD, Law.fit_of, Law.fit3, L3.noEr, L3.slFin, L3.slice3, L3.shE, L3.Tg.slots, L3.wipeE, L3.restE, L3.asB, Law.sz0, Law.sz1, Law.sz2, L3.rAdd3, L3.rLen3, L3.rLt3, L3.rIdx3, Law.at30, Law.at31, Law.at32, Law.at20, Law.at21, L3.isNone, Law.eqD_int, Law.md0, Law.md1, Law.md2, Law.md3, Law.md4, Law.md5, Law.md6, Law.md7, Law.md8, Law.md9, Law.md10, Law.md11, Law.md12, Law.md13, Law.md14, Law.md15, Law.md16, Law.md17, Law.md18, Law.md19, Law.md20, Law.md21, Law.md22, Law.md23, Law.md24, Law.md25, F5_1, hm, ht, x2, y2, t2, mtAt, mtFin, mtPre, Mt.run]
    · by_cases hlt : v + coin < u
      · rcases h7 with rfl | ⟨_, rfl⟩ <;> rcases h8 with rfl | ⟨_, rfl⟩ <;> simp [L3.evSs, L3.evS.eq_1, L3.evS.eq_2, L3.evS.eq_3, L3.evS.eq_4, L3.evS.eq_5, L3.evS.eq_6, L3.evS.eq_9, L3.evS.eq_10, L3.evS.eq_11, L3.evS.eq_12, L3.evS.eq_13, L3.evS.eq_14, L3.evE.eq_1, L3.evE.eq_2, L3.evE.eq_3, L3.evE.eq_4, L3.evE.eq_5, L3.evE.eq_6, L3.evE.eq_7, L3.evE.eq_8, L3.evE.eq_9, L3.evE.eq_10, L3.evE.eq_11, L3.evE.eq_12, L3.evE.eq_13, L3.evE.eq_14, L3.evE.eq_15, L3.evE.eq_16, L3.evE.eq_18, L3.evE.eq_19, L3.evE.eq_20, L3.evE.eq_21, L3.evA, L3.evP, Law.evS_whlR, Law.evS_frR, Law.evE_lcR, Law.evS_frpR, Law.evE_lcpR, L3.walkP, L3.walkD, L3.unfzO, L3.unfz, Law.frR_nil, Law.frR_cons, Law.lcR_nil, Law.lcR_cons, L3.argOf, L3.Rs.bind, L3.opFin, L3.avDs, L3.avD, L3.vDs, L3.Op.keeps, L3.Op.run, L3.i1, L3.i2, L3.a1, L3.a2, L3.l1, L3.gd, L3.oB, L3.oI, L3.toB, L3.toI, L3.rdVar, L3.mvVar, L3.stVar, L3.stR, L3.stTg, L3.stVars, L3.stVarsO, L3.passA, L3.backA, L3.doCall, L3.cellOf, L3.start3, Law.outs1, Law.outs2, Law.outs3, Law.outs4, L3.resOf, L3.runFn, L3.keepB, L3.Ow.isB, L3.Ow.isOwn, L3.isTys, L3.isTy, L3.itFin, L3.ItK.run, L3.kRng1, L3.kRng2, L3.kSeq, L3.seqD, L3.seqD2, L3.kEnm, L3.enmD, Law.fit_of, Law.fit3, L3.noEr, L3.slFin, L3.slice3, L3.shE, L3.Tg.slots, L3.wipeE, L3.restE, L3.asB, Law.sz0, Law.sz1, Law.sz2, L3.rAdd3, L3.rLen3, L3.rLt3, L3.rIdx3, Law.at30, Law.at31, Law.at32, Law.at20, Law.at21, L3.isNone, Law.eqD_int, Law.md0, Law.md1, Law.md2, Law.md3, Law.md4, Law.md5, Law.md6, Law.md7, Law.md8, Law.md9, Law.md10, Law.md11, Law.md12, Law.md13, Law.md14, Law.md15, Law.md16, Law.md17, Law.md18, Law.md19, Law.md20, Law.md21, Law.md22, Law.md23, Law.md24, Law.md25, F5_1, hm, ht, x2, y2, t2, mtAt, mtFin, mtPre, Mt.run, hlt]
      · rcases h7 with rfl | ⟨_, rfl⟩ <;> rcases h8 with rfl | ⟨_, rfl⟩ <;> simp [L3.evSs, L3.evS.eq_1, L3.evS.eq_2, L3.evS.eq_3, L3.evS.eq_4, L3.evS.eq_5, L3.evS.eq_6, L3.evS.eq_9, L3.evS.eq_10, L3.evS.eq_11, L3.evS.eq_12, L3.evS.eq_13, L3.evS.eq_14, L3.evE.eq_1, L3.evE.eq_2, L3.evE.eq_3, L3.evE.eq_4, L3.evE.eq_5, L3.evE.eq_6, L3.evE.eq_7, L3.evE.eq_8, L3.evE.eq_9, L3.evE.eq_10, L3.evE.eq_11, L3.evE.eq_12, L3.evE.eq_13, L3.evE.eq_14, L3.evE.eq_15, L3.evE.eq_16, L3.evE.eq_18, L3.evE.eq_19, L3.evE.eq_20, L3.evE.eq_21, L3.evA, L3.evP, Law.evS_whlR, Law.evS_frR, Law.evE_lcR, Law.evS_frpR, Law.evE_lcpR, L3.walkP, L3.walkD, L3.unfzO, L3.unfz, Law.frR_nil, Law.frR_cons, Law.lcR_nil, Law.lcR_cons, L3.argOf, L3.Rs.bind, L3.opFin, L3.avDs, L3.avD, L3.vDs, L3.Op.keeps, L3.Op.run, L3.i1, L3.i2, L3.a1, L3.a2, L3.l1, L3.gd, L3.oB, L3.oI, L3.toB, L3.toI, L3.rdVar, L3.mvVar, L3.stVar, L3.stR, L3.stTg, L3.stVars, L3.stVarsO, L3.passA, L3.backA, L3.doCall, L3.cellOf, L3.start3, Law.outs1, Law.outs2, Law.outs3, Law.outs4, L3.resOf, L3.runFn, L3.keepB, L3.Ow.isB, L3.Ow.isOwn, L3.isTys, L3.isTy, L3.itFin, L3.ItK.run, L3.kRng1, L3.kRng2, L3.kSeq, L3.seqD, L3.seqD2, L3.kEnm, L3.enmD, Law.fit_of, Law.fit3, L3.noEr, L3.slFin, L3.slice3, L3.shE, L3.Tg.slots, L3.wipeE, L3.restE, L3.asB, Law.sz0, Law.sz1, Law.sz2, L3.rAdd3, L3.rLen3, L3.rLt3, L3.rIdx3, Law.at30, Law.at31, Law.at32, Law.at20, Law.at21, L3.isNone, Law.eqD_int, Law.md0, Law.md1, Law.md2, Law.md3, Law.md4, Law.md5, Law.md6, Law.md7, Law.md8, Law.md9, Law.md10, Law.md11, Law.md12, Law.md13, Law.md14, Law.md15, Law.md16, Law.md17, Law.md18, Law.md19, Law.md20, Law.md21, Law.md22, Law.md23, Law.md24, Law.md25, F5_1, hm, ht, x2, y2, t2, mtAt, mtFin, mtPre, Mt.run, hlt]
theorem pos_lt {start step m s : Nat} (h : 0 < m) : (start + s * step) % m < m := Nat.mod_lt _ h
def ps (start step m s : Nat) : Nat := (start + s * step) % m
theorem ps_lt {start step m s : Nat} (h : 0 < m) : ps start step m s < m := Nat.mod_lt _ h
theorem ps_succ {start step m s : Nat} : (ps start step m s + step) % m = ps start step m (s + 1) := by
  unfold ps
  rw [Nat.mod_add_mod, Nat.succ_mul, Nat.add_assoc]
/-- what is sound stays -/
def Cls1 (P : Nat → Int → Prop) (coin : Int) (step m : Nat) : Prop := ∀ r v, r < m → P r v → P ((r + step) % m) (v + coin)
/-- what a walk along rests has done -/
structure Rd (coin : Int) (step m : Nat) (fl0 fl : List D) : Prop where
  wf : WFl fl m
  mo : ∀ r b, Has fl0 r b → Has fl r b
  sd : ∀ P, Cls1 P coin step m → Snd P fl0 → Snd P fl
theorem Rd.refl {coin : Int} {step m : Nat} {fl : List D} (w : WFl fl m) : Rd coin step m fl fl := ⟨w, fun _ _ h => h, fun _ _ h => h⟩
theorem Rd.trans {coin : Int} {step m : Nat} {a b c : List D} (h : Rd coin step m a b) (k : Rd coin step m b c) : Rd coin step m a c := ⟨k.wf, fun r x z => k.mo r x (h.mo r x z), fun P p z => k.sd P p (h.sd P p z)⟩
theorem Rd.step {coin : Int} {step m : Nat} {fl : List D} (w : WFl fl m) {h : Nat} (hh : h < m) (hm : 0 < m) : Rd coin step m fl (stepL coin fl h ((h + step) % m)) :=
  ⟨stepL_wf w (Nat.mod_lt _ hm), fun r b z => stepL_mono w (Nat.mod_lt _ hm) z, fun P p z => stepL_snd w (Nat.mod_lt _ hm) (fun v hv => p h v hh hv) z⟩
def rue (fl : List D) (coin : Int) (step m g start here : Nat) (c7 c8 : Cell) : En := [some (.brw, .lst fl), some (.sh, .int coin), some (.sh, .int step), some (.sh, .int m), some (.sh, .int g), some (.sh, .int start), some (.sh, .int here), c7, c8]
theorem ru_inner (C : CR) (fl0 : List D) (coin : Int) (step m g start : Nat) (hm : 0 < m) (hs : start < m) (w0 : WFl fl0 m) (N : Nat) (c7 c8 : Cell) (h7 : okc c7) (h8 : okc c8) :
    ∃ fl c7' c8', frR WN C (mdOf tb) (.nm 7) F5_1 (rngI 0 N) (rue fl0 coin step m g start start c7 c8) = .ok .nx (rue fl coin step m g start (ps start step m N) c7' c8') ∧ okc c7' ∧ okc c8' ∧ Rd coin step m fl0 fl ∧ ∀ s t0 b, t0 ≤ s → s ≤ N → Has fl0 (ps start step m t0) b → Has fl (ps start step m s) (b + ((s - t0 : Nat) : Int) * coin) := by
  have h0 : ps start step m 0 = start := by unfold ps; rw [Nat.zero_mul, Nat.add_zero, Nat.mod_eq_of_lt hs]
  obtain ⟨en', e1, fl, c7', c8', e2, k7, k8, R, J⟩ := frR_rng (w := WN) (C := C) (md := mdOf tb) (tg := .nm 7) (b := F5_1)
    (fun k en => ∃ fl c7 c8, en = rue fl coin step m g start (ps start step m k) c7 c8 ∧ okc c7 ∧ okc c8 ∧ Rd coin step m fl0 fl ∧ ∀ s t0 b, t0 ≤ s → s ≤ k → Has fl0 (ps start step m t0) b → Has fl (ps start step m s) (b + ((s - t0 : Nat) : Int) * coin))
    N 0 (rue fl0 coin step m g start start c7 c8)
    ⟨fl0, c7, c8, by rw [h0], h7, h8, .refl w0, fun s t0 b h1 h2 h3 => by
      have : t0 = s := by omega
      subst this
      rw [Nat.sub_self]
      simpa using h3⟩
    (by
      intro k _ _ en ⟨fl, c7, c8, e, h7, h8, R, J⟩
      subst e
      obtain ⟨x, x1, hx⟩ := R.wf.at (ps_lt (start := start) (step := step) (s := k) hm)
      obtain ⟨y, y1, hy⟩ := R.wf.at (ps_lt (start := start) (step := step) (s := k + 1) hm)
      have b := ru_body C fl coin step m g start (ps start step m k) (ps start step m (k + 1)) (ps start step m k) (ps start step m (k + 1)) k c7 c8 h7 h8 x y (by omega) (by rw [← ps_succ (s := k), Int.natCast_emod, Int.natCast_add]) x1 y1 (L3.atI_nat x1) (L3.atI_nat y1) (ixN_nat (by rw [R.wf.1]; exact ps_lt hm)) hx hy
      have R2 := Rd.step (coin := coin) (step := step) R.wf (ps_lt (start := start) (step := step) (s := k) hm) hm
      rw [ps_succ] at R2
      refine ⟨_, b, stepL coin fl (ps start step m k) (ps start step m (k + 1)), _, _, rfl, okc_sh, okc_sh, R.trans R2, fun s t0 b h1 h2 h3 => ?_⟩
      by_cases hsk : s ≤ k
      · exact R2.mo _ _ (J s t0 b h1 hsk h3)
      · have hs1 : s = k + 1 := by omega
        subst hs1
        by_cases ht : t0 ≤ k
        · have := stepL_fill (coin := coin) R.wf (ps_lt (start := start) (step := step) (s := k + 1) hm) (J k t0 b ht (Nat.le_refl _) h3)
          have e : b + ((k + 1 - t0 : Nat) : Int) * coin = b + ((k - t0 : Nat) : Int) * coin + coin := by
            rw [show k + 1 - t0 = (k - t0) + 1 by omega]
            push_cast
            rw [Int.add_mul]; omega
          rw [e]; exact this
        · have : t0 = k + 1 := by omega
          subst this
          rw [Nat.sub_self]
          have := R2.mo _ _ (R.mo _ _ h3)
          simpa using this)
  rw [Nat.zero_add] at e2 J
  subst e2
  exact ⟨fl, c7', c8', by rw [rngI_eq]; exact e1, k7, k8, R, J⟩
theorem ru_cnt (C : CR) (mI gI z : Int) (hd : divOk mI gI = true) (hz : mI / gI = z) (hm : mulOk 2 z = true) (x0 x1 x2 x5 x6 x7 x8 : Cell) :
    evA C (mdOf tb) (.cons (.op .mul (.cons (.cst (.int 2)) (.cons (.op .fdiv (.cons (.pk 3) (.cons (.pk 4) .nil))) .nil))) .nil) [x0, x1, x2, some (.sh, .int mI), some (.sh, .int gI), x5, x6, x7, x8] = .ok [.v (.int (2 * z))] [x0, x1, x2, some (.sh, .int mI), some (.sh, .int gI), x5, x6, x7, x8] := by
  simp [L3.evSs, L3.evS.eq_1, L3.evS.eq_2, L3.evS.eq_3, L3.evS.eq_4, L3.evS.eq_5, L3.evS.eq_6, L3.evS.eq_9, L3.evS.eq_10, L3.evS.eq_11, L3.evS.eq_12, L3.evS.eq_13, L3.evS.eq_14, L3.evE.eq_1, L3.evE.eq_2, L3.evE.eq_3, L3.evE.eq_4, L3.evE.eq_5, L3.evE.eq_6, L3.evE.eq_7, L3.evE.eq_8, L3.evE.eq_9, L3.evE.eq_10, L3.evE.eq_11, L3.evE.eq_12, L3.evE.eq_13, L3.evE.eq_14, L3.evE.eq_15, L3.evE.eq_16, L3.evE.eq_18, L3.evE.eq_19, L3.evE.eq_20, L3.evE.eq_21, L3.evA, L3.evP, Law.evS_whlR, Law.evS_frR, Law.evE_lcR, Law.evS_frpR, Law.evE_lcpR, L3.walkP, L3.walkD, L3.unfzO, L3.unfz, Law.frR_nil, Law.frR_cons, Law.lcR_nil, Law.lcR_cons, L3.argOf, L3.Rs.bind, L3.opFin, L3.avDs, L3.avD, L3.vDs, L3.Op.keeps, L3.Op.run, L3.i1, L3.i2, L3.a1, L3.a2, L3.l1, L3.gd, L3.oB, L3.oI, L3.toB, L3.toI, L3.rdVar, L3.mvVar, L3.stVar, L3.stR, L3.stTg, L3.stVars, L3.stVarsO, L3.passA, L3.backA, L3.doCall, L3.cellOf, L3.start3, Law.outs1, Law.outs2, Law.outs3, Law.outs4, L3.resOf, L3.runFn, L3.keepB, L3.Ow.isB, L3.Ow.isOwn, L3.isTys, L3.isTy, L3.itFin, L3.ItK.run, L3.kRng1, L3.kRng2, L3.kSeq, L3.seqD, L3.seqD2, L3.kEnm, L3.enmD, Law.fit_of, Law.fit3, L3.noEr, L3.slFin, L3.slice3, L3.shE, L3.Tg.slots, L3.wipeE, L3.restE, L3.asB, Law.sz0, Law.sz1, Law.sz2, L3.rAdd3, L3.rLen3, L3.rLt3, L3.rIdx3, Law.at30, Law.at31, Law.at32, Law.at20, Law.at21, L3.isNone, Law.eqD_int, Law.md0, Law.md1, Law.md2, Law.md3, Law.md4, Law.md5, Law.md6, Law.md7, Law.md8, Law.md9, Law.md10, Law.md11, Law.md12, Law.md13, Law.md14, Law.md15, Law.md16, Law.md17, Law.md18, Law.md19, Law.md20, Law.md21, Law.md22, Law.md23, Law.md24, Law.md25, hd, hz, hm]
def ruI (fl : List D) (coin step m g start here : Int) (c7 c8 : Cell) : En := [some (.brw, .lst fl), some (.sh, .int coin), some (.sh, .int step), some (.sh, .int m), some (.sh, .int g), some (.sh, .int start), some (.sh, .int here), c7, c8]
theorem ru_setup (C : CR) (fl0 : List D) (coin step m g start : Int) (c5 c6 c7 c8 : Cell) (h5 : okc c5) (h6 : okc c6) :
    ((stR (stTg (.nm 5) (.int start) false [some (.brw, .lst fl0), some (.sh, .int coin), some (.sh, .int step), some (.sh, .int m), some (.sh, .int g), c5, c6, c7, c8])).bind fun _ en => evSs WN C (mdOf tb) F5_0 en) = evSs WN C (mdOf tb) (.cons (.fr (.nm 7) .rng1 (.cons (.op .mul (.cons (.cst (.int 2)) (.cons (.op .fdiv (.cons (.pk 3) (.cons (.pk 4) .nil))) .nil))) .nil) F5_1) .nil) (ruI fl0 coin step m g start start c7 c8) := by
  have p1 : stTg (.nm 5) (.int start) false [some (.brw, .lst fl0), some (.sh, .int coin), some (.sh, .int step), some (.sh, .int m), some (.sh, .int g), c5, c6, c7, c8] = some [some (.brw, .lst fl0), some (.sh, .int coin), some (.sh, .int step), some (.sh, .int m), some (.sh, .int g), some (.sh, .int start), c6, c7, c8] := by
    rcases h5 with rfl | ⟨_, rfl⟩ <;> rfl
  have sA : Ps WN C (mdOf tb) [some (.brw, .lst fl0), some (.sh, .int coin), some (.sh, .int step), some (.sh, .int m), some (.sh, .int g), some (.sh, .int start), c6, c7, c8] (.asg (.nm 6) (.var 5)) (ruI fl0 coin step m g start start c7 c8) := by
    unfold Ps
    rcases h6 with rfl | ⟨_, rfl⟩ <;> simp [L3.evSs, L3.evS.eq_1, L3.evS.eq_2, L3.evS.eq_3, L3.evS.eq_4, L3.evS.eq_5, L3.evS.eq_6, L3.evS.eq_9, L3.evS.eq_10, L3.evS.eq_11, L3.evS.eq_12, L3.evS.eq_13, L3.evS.eq_14, L3.evE.eq_1, L3.evE.eq_2, L3.evE.eq_3, L3.evE.eq_4, L3.evE.eq_5, L3.evE.eq_6, L3.evE.eq_7, L3.evE.eq_8, L3.evE.eq_9, L3.evE.eq_10, L3.evE.eq_11, L3.evE.eq_12, L3.evE.eq_13, L3.evE.eq_14, L3.evE.eq_15, L3.evE.eq_16, L3.evE.eq_18, L3.evE.eq_19, L3.evE.eq_20, L3.evE.eq_21, L3.evA, L3.evP, Law.evS_whlR, Law.evS_frR, Law.evE_lcR, Law.evS_frpR, Law.evE_lcpR, L3.walkP, L3.walkD, L3.unfzO, L3.unfz, Law.frR_nil, Law.frR_cons, Law.lcR_nil, Law.lcR_cons, L3.argOf, L3.Rs.bind, L3.opFin, L3.avDs, L3.avD, L3.vDs, L3.Op.keeps, L3.Op.run, L3.i1, L3.i2, L3.a1, L3.a2, L3.l1, L3.gd, L3.oB, L3.oI, L3.toB, L3.toI, L3.rdVar, L3.mvVar, L3.stVar, L3.stR, L3.stTg, L3.stVars, L3.stVarsO, L3.passA, L3.backA, L3.doCall, L3.cellOf, L3.start3, Law.outs1, Law.outs2, Law.outs3, Law.outs4, L3.resOf, L3.runFn, L3.keepB, L3.Ow.isB, L3.Ow.isOwn, L3.isTys, L3.isTy, L3.itFin, L3.ItK.run, L3.kRng1, L3.kRng2, L3.kSeq, L3.seqD, L3.seqD2, L3.kEnm, L3.enmD, Law.fit_of, Law.fit3, L3.noEr, L3.slFin, L3.slice3, L3.shE, L3.Tg.slots, L3.wipeE, L3.restE, L3.asB, Law.sz0, Law.sz1, Law.sz2, L3.rAdd3, L3.rLen3, L3.rLt3, L3.rIdx3, Law.at30, Law.at31, Law.at32, Law.at20, Law.at21, L3.isNone, Law.eqD_int, Law.md0, Law.md1, Law.md2, Law.md3, Law.md4, Law.md5, Law.md6, Law.md7, Law.md8, Law.md9, Law.md10, Law.md11, Law.md12, Law.md13, Law.md14, Law.md15, Law.md16, Law.md17, Law.md18, Law.md19, Law.md20, Law.md21, Law.md22, Law.md23, Law.md24, Law.md25, ruI]
  rw [p1]
  exact ss_step sA
theorem ru_for (C : CR) (fl0 : List D) (coin step m g start here z : Int) (N : Nat) (c7 c8 : Cell) (hd : divOk m g = true) (hz : m / g = z) (hm : mulOk 2 z = true) (hi : inB (2 * z) = true) (hN : (2 * z).toNat = N) :
    evS WN C (mdOf tb) (.fr (.nm 7) .rng1 (.cons (.op .mul (.cons (.cst (.int 2)) (.cons (.op .fdiv (.cons (.pk 3) (.cons (.pk 4) .nil))) .nil))) .nil) F5_1) (ruI fl0 coin step m g start here c7 c8) = frR WN C (mdOf tb) (.nm 7) F5_1 (rngI 0 N) (ruI fl0 coin step m g start here c7 c8) := by
  rw [evS_frR]
  have a1 := ru_cnt C m g z hd hz hm (some (.brw, .lst fl0)) (some (.sh, .int coin)) (some (.sh, .int step)) (some (.sh, .int start)) (some (.sh, .int here)) c7 c8
  have a2 : ∀ en : En, itFin .rng1 [.v (.int (2 * z))] en = .ok (rngI 0 N) en := fun en => by rw [it_rng1 hi, hN]
  unfold ruI
  rw [a1]
  simp only [Rs.bind, a2]
theorem ru_start (C : CR) (fl0 : List D) (coin : Int) (step m g start n : Nat) (hm : 0 < m) (hg : 0 < g) (hn : m / g = n) (hm2 : m < 1000000) (hg2 : g ≤ m) (hs : start < m) (w0 : WFl fl0 m) (c5 c6 c7 c8 : Cell) (h5 : okc c5) (h6 : okc c6) (h7 : okc c7) (h8 : okc c8) :
    ∃ fl c6' c7' c8', ((stR (stTg (.nm 5) (.int start) false [some (.brw, .lst fl0), some (.sh, .int coin), some (.sh, .int step), some (.sh, .int m), some (.sh, .int g), c5, c6, c7, c8])).bind fun _ en => evSs WN C (mdOf tb) F5_0 en)
      = .ok .nx [some (.brw, .lst fl), some (.sh, .int coin), some (.sh, .int step), some (.sh, .int m), some (.sh, .int g), some (.sh, .int start), c6', c7', c8'] ∧ okc c6' ∧ okc c7' ∧ okc c8' ∧ Rd coin step m fl0 fl ∧ ∀ s t0 b, t0 ≤ s → s ≤ 2 * n → Has fl0 (ps start step m t0) b → Has fl (ps start step m s) (b + ((s - t0 : Nat) : Int) * coin) := by
  have hmg : n ≤ m := by rw [← hn]; exact Nat.div_le_self _ _
  have hz : (m : Int) / (g : Int) = (n : Int) := by rw [← hn, Int.natCast_ediv]
  obtain ⟨fl, c7', c8', e1, k7, k8, w, J⟩ := ru_inner C fl0 coin step m g start hm hs w0 (2 * n) c7 c8 h7 h8
  have s1 := ru_setup C fl0 coin step m g start c5 c6 c7 c8 h5 h6
  have s2 := ru_for C fl0 coin step m g start start n (2 * n) c7 c8 (div_s ⟨by omega, by omega⟩) hz (mul_l ⟨by decide, by decide⟩) (inB_of (by omega) (by omega)) (by omega)
  have s3 : Ps WN C (mdOf tb) (ruI fl0 coin step m g start start c7 c8) (.fr (.nm 7) .rng1 (.cons (.op .mul (.cons (.cst (.int 2)) (.cons (.op .fdiv (.cons (.pk 3) (.cons (.pk 4) .nil))) .nil))) .nil) F5_1) (rue fl coin step m g start (ps start step m (2 * n)) c7' c8') := s2.trans e1
  exact ⟨fl, _, c7', c8', s1.trans ((ss_step s3).trans ss_nilU), okc_sh, k7, k8, w, J⟩
def roe (fl : List D) (coin step m g : Int) (c5 c6 c7 c8 : Cell) : En := [some (.brw, .lst fl), some (.sh, .int coin), some (.sh, .int step), some (.sh, .int m), some (.sh, .int g), c5, c6, c7, c8]
theorem ro_setup (C : CR) (fl0 : List D) (coin step m g : Int) (hc : C 3 [(false, .lst [.int step, .int m])] = .ok (.int g) false [none]) :
    Ps WN C (mdOf tb) [some (.brw, .lst fl0), some (.sh, .int coin), some (.sh, .int step), some (.sh, .int m), none, none, none, none, none] (.asg (.nm 4) (.call 3 (.cons (.op .lst (.cons (.var 2) (.cons (.var 3) .nil))) .nil))) (roe fl0 coin step m g none none none none) := by
  unfold Ps
  simp [L3.evSs, L3.evS.eq_1, L3.evS.eq_2, L3.evS.eq_3, L3.evS.eq_4, L3.evS.eq_5, L3.evS.eq_6, L3.evS.eq_9, L3.evS.eq_10, L3.evS.eq_11, L3.evS.eq_12, L3.evS.eq_13, L3.evS.eq_14, L3.evE.eq_1, L3.evE.eq_2, L3.evE.eq_3, L3.evE.eq_4, L3.evE.eq_5, L3.evE.eq_6, L3.evE.eq_7, L3.evE.eq_8, L3.evE.eq_9, L3.evE.eq_10, L3.evE.eq_11, L3.evE.eq_12, L3.evE.eq_13, L3.evE.eq_14, L3.evE.eq_15, L3.evE.eq_16, L3.evE.eq_18, L3.evE.eq_19, L3.evE.eq_20, L3.evE.eq_21, L3.evA, L3.evP, Law.evS_whlR, Law.evS_frR, Law.evE_lcR, Law.evS_frpR, Law.evE_lcpR, L3.walkP, L3.walkD, L3.unfzO, L3.unfz, Law.frR_nil, Law.frR_cons, Law.lcR_nil, Law.lcR_cons, L3.argOf, L3.Rs.bind, L3.opFin, L3.avDs, L3.avD, L3.vDs, L3.Op.keeps, L3.Op.run, L3.i1, L3.i2, L3.a1, L3.a2, L3.l1, L3.gd, L3.oB, L3.oI, L3.toB, L3.toI, L3.rdVar, L3.mvVar, L3.stVar, L3.stR, L3.stTg, L3.stVars, L3.stVarsO, L3.passA, L3.backA, L3.doCall, L3.cellOf, L3.start3, Law.outs1, Law.outs2, Law.outs3, Law.outs4, L3.resOf, L3.runFn, L3.keepB, L3.Ow.isB, L3.Ow.isOwn, L3.isTys, L3.isTy, L3.itFin, L3.ItK.run, L3.kRng1, L3.kRng2, L3.kSeq, L3.seqD, L3.seqD2, L3.kEnm, L3.enmD, Law.fit_of, Law.fit3, L3.noEr, L3.slFin, L3.slice3, L3.shE, L3.Tg.slots, L3.wipeE, L3.restE, L3.asB, Law.sz0, Law.sz1, Law.sz2, L3.rAdd3, L3.rLen3, L3.rLt3, L3.rIdx3, Law.at30, Law.at31, Law.at32, Law.at20, Law.at21, L3.isNone, Law.eqD_int, Law.md0, Law.md1, Law.md2, Law.md3, Law.md4, Law.md5, Law.md6, Law.md7, Law.md8, Law.md9, Law.md10, Law.md11, Law.md12, Law.md13, Law.md14, Law.md15, Law.md16, Law.md17, Law.md18, Law.md19, Law.md20, Law.md21, Law.md22, Law.md23, Law.md24, Law.md25, hc, roe]
theorem ro_for (C : CR) (fl0 : List D) (coin step m g : Int) (N : Nat) (hi : inB g = true) (hN : g.toNat = N) :
    evS WN C (mdOf tb) (.fr (.nm 5) .rng1 (.cons (.var 4) .nil) F5_0) (roe fl0 coin step m g none none none none) = frR WN C (mdOf tb) (.nm 5) F5_0 (rngI 0 N) (roe fl0 coin step m g none none none none) := by
  rw [evS_frR]
  have a1 : evA C (mdOf tb) (.cons (.var 4) .nil) (roe fl0 coin step m g none none none none) = .ok [.v (.int g)] (roe fl0 coin step m g none none none none) := by simp [L3.evSs, L3.evS.eq_1, L3.evS.eq_2, L3.evS.eq_3, L3.evS.eq_4, L3.evS.eq_5, L3.evS.eq_6, L3.evS.eq_9, L3.evS.eq_10, L3.evS.eq_11, L3.evS.eq_12, L3.evS.eq_13, L3.evS.eq_14, L3.evE.eq_1, L3.evE.eq_2, L3.evE.eq_3, L3.evE.eq_4, L3.evE.eq_5, L3.evE.eq_6, L3.evE.eq_7, L3.evE.eq_8, L3.evE.eq_9, L3.evE.eq_10, L3.evE.eq_11, L3.evE.eq_12, L3.evE.eq_13, L3.evE.eq_14, L3.evE.eq_15, L3.evE.eq_16, L3.evE.eq_18, L3.evE.eq_19, L3.evE.eq_20, L3.evE.eq_21, L3.evA, L3.evP, Law.evS_whlR, Law.evS_frR, Law.evE_lcR, Law.evS_frpR, Law.evE_lcpR, L3.walkP, L3.walkD, L3.unfzO, L3.unfz, Law.frR_nil, Law.frR_cons, Law.lcR_nil, Law.lcR_cons, L3.argOf, L3.Rs.bind, L3.opFin, L3.avDs, L3.avD, L3.vDs, L3.Op.keeps, L3.Op.run, L3.i1, L3.i2, L3.a1, L3.a2, L3.l1, L3.gd, L3.oB, L3.oI, L3.toB, L3.toI, L3.rdVar, L3.mvVar, L3.stVar, L3.stR, L3.stTg, L3.stVars, L3.stVarsO, L3.passA, L3.backA, L3.doCall, L3.cellOf, L3.start3, Law.outs1, Law.outs2, Law.outs3, Law.outs4, L3.resOf, L3.runFn, L3.keepB, L3.Ow.isB, L3.Ow.isOwn, L3.isTys, L3.isTy, L3.itFin, L3.ItK.run, L3.kRng1, L3.kRng2, L3.kSeq, L3.seqD, L3.seqD2, L3.kEnm, L3.enmD, Law.fit_of, Law.fit3, L3.noEr, L3.slFin, L3.slice3, L3.shE, L3.Tg.slots, L3.wipeE, L3.restE, L3.asB, Law.sz0, Law.sz1, Law.sz2, L3.rAdd3, L3.rLen3, L3.rLt3, L3.rIdx3, Law.at30, Law.at31, Law.at32, Law.at20, Law.at21, L3.isNone, Law.eqD_int, Law.md0, Law.md1, Law.md2, Law.md3, Law.md4, Law.md5, Law.md6, Law.md7, Law.md8, Law.md9, Law.md10, Law.md11, Law.md12, Law.md13, Law.md14, Law.md15, Law.md16, Law.md17, Law.md18, Law.md19, Law.md20, Law.md21, Law.md22, Law.md23, Law.md24, Law.md25, roe]
  have a2 : ∀ en : En, itFin .rng1 [.v (.int g)] en = .ok (rngI 0 N) en := fun en => by rw [it_rng1 hi, hN]
  rw [a1]
  simp only [Rs.bind, a2]
theorem ro_loop (C : CR) (fl0 : List D) (coin : Int) (step m g n : Nat) (hm : 0 < m) (hg : 0 < g) (hn : m / g = n) (hm2 : m < 1000000) (hg2 : g ≤ m) (w0 : WFl fl0 m) :
    ∃ fl c5 c6 c7 c8, frR WN C (mdOf tb) (.nm 5) F5_0 (rngI 0 g) (roe fl0 coin step m g none none none none) = .ok .nx (roe fl coin step m g c5 c6 c7 c8) ∧ Rd coin step m fl0 fl ∧ ∀ start, start < g → ∀ s t0 b, t0 ≤ s → s ≤ 2 * n → Has fl0 (ps start step m t0) b → Has fl (ps start step m s) (b + ((s - t0 : Nat) : Int) * coin) := by
  obtain ⟨en', e1, fl, c5, c6, c7, c8, e2, _, _, _, _, R, J⟩ := frR_rng (w := WN) (C := C) (md := mdOf tb) (tg := .nm 5) (b := F5_0)
    (fun k en => ∃ fl c5 c6 c7 c8, en = roe fl coin step m g c5 c6 c7 c8 ∧ okc c5 ∧ okc c6 ∧ okc c7 ∧ okc c8 ∧ Rd coin step m fl0 fl ∧ ∀ start, start < k → ∀ s t0 b, t0 ≤ s → s ≤ 2 * n → Has fl0 (ps start step m t0) b → Has fl (ps start step m s) (b + ((s - t0 : Nat) : Int) * coin))
    g 0 (roe fl0 coin step m g none none none none) ⟨fl0, _, _, _, _, rfl, .inl rfl, .inl rfl, .inl rfl, .inl rfl, .refl w0, fun start h => absurd h (Nat.not_lt_zero _)⟩
    (by
      intro k _ hk en ⟨fl, c5, c6, c7, c8, e, h5, h6, h7, h8, R, J⟩
      subst e
      obtain ⟨fl', c6', c7', c8', f1, k6, k7, k8, R', J'⟩ := ru_start C fl coin step m g k n hm hg hn hm2 hg2 (by omega) R.wf c5 c6 c7 c8 h5 h6 h7 h8
      refine ⟨_, f1, fl', _, c6', c7', c8', rfl, okc_sh, k6, k7, k8, R.trans R', fun start hs s t0 b h1 h2 h3 => ?_⟩
      by_cases hsk : start < k
      · exact R'.mo _ _ (J start hsk s t0 b h1 h2 h3)
      · have : start = k := by omega
        subst this
        exact J' s t0 b h1 h2 (R.mo _ _ h3))
  rw [Nat.zero_add] at J
  subst e2
  exact ⟨fl, c5, c6, c7, c8, by rw [rngI_eq]; exact e1, R, J⟩
/-- what round_up does -/
theorem c_round_up (n : Nat) (fl0 : List D) (coin step m : Nat) (hm : 0 < m) (hm2 : m < 1000000) (hs : step < 1000000000) (w0 : WFl fl0 m) :
    ∃ fl, callD tb WN (n + 3) 5 [(true, .lst fl0), (false, .int coin), (false, .int step), (false, .int m)] = .ok .non false [some (.brw, .lst fl), none, none, none] ∧ Rd coin step m fl0 fl ∧ ∀ r b, r < m → Has fl0 r b → ∀ j : Nat, Has fl ((r + j * step) % m) (b + j * coin) := by
  have hg : 0 < Nat.gcd step m := Nat.gcd_pos_of_pos_right _ hm
  have hg2 : Nat.gcd step m ≤ m := Nat.gcd_le_right _ hm
  obtain ⟨fl, c5, c6, c7, c8, e1, R, J⟩ := ro_loop (callD tb WN (n + 2)) fl0 coin step m (Nat.gcd step m) (m / Nat.gcd step m) hm hg rfl hm2 hg2 w0
  have hp : (1000000000 : Nat) ≤ 2 ^ 1000 := by decide
  have hcm := c_common_of n [step, m] (.lst (intN [step, m])) (.inr rfl) (by
    intro x hx
    simp only [List.mem_cons, List.not_mem_nil, or_false] at hx
    rcases hx with rfl | rfl <;> omega)
  have egc : gcdL [step, m] = Nat.gcd step m := by show Nat.gcd step (Nat.gcd m 0) = _; rw [Nat.gcd_zero_right]
  rw [egc] at hcm
  have s1 := ro_setup (callD tb WN (n + 2)) fl0 coin step m (Nat.gcd step m : Nat) hcm
  have s2 : Ps WN (callD tb WN (n + 2)) (mdOf tb) _ (.fr (.nm 5) .rng1 (.cons (.var 4) .nil) F5_0) _ := (ro_for (callD tb WN (n + 2)) fl0 coin step m (Nat.gcd step m : Nat) (Nat.gcd step m) (inB_of (by omega) (by omega)) (by omega)).trans e1
  refine ⟨fl, ?_, R, fun r b hr hf j => ?_⟩
  · rw [u5]
    have e5 := (ss_step s1).trans ((ss_step s2).trans ss_nilU)
    exact (congrArg (resOf 4) e5).trans rfl
  · obtain ⟨t0, ht, hp⟩ := turns step m hm r hr
    have hj := round_mod step m r j hm
    rw [hj]
    have hlt : j % (m / Nat.gcd step m) < m / Nat.gcd step m := Nat.mod_lt _ (by omega)
    have h0 : Has fl0 (ps (r % Nat.gcd step m) step m t0) b := by unfold ps; rw [hp]; exact hf
    have h1 := J (r % Nat.gcd step m) (Nat.mod_lt _ hg) (t0 + j % (m / Nat.gcd step m)) t0 b (by omega) (by omega) h0
    have h2 : ps (r % Nat.gcd step m) step m (t0 + j % (m / Nat.gcd step m)) = (r + j % (m / Nat.gcd step m) * step) % m := by
      have h3 : r % Nat.gcd step m + (t0 + j % (m / Nat.gcd step m)) * step = (r % Nat.gcd step m + t0 * step) + j % (m / Nat.gcd step m) * step := by rw [Nat.add_mul, Nat.add_assoc]
      show (r % Nat.gcd step m + (t0 + j % (m / Nat.gcd step m)) * step) % m = _
      rw [h3, ← Nat.mod_add_mod, hp]
    rw [← h2]
    refine h1.le ?_
    rw [Nat.add_sub_cancel_left]
    have : j % (m / Nat.gcd step m) ≤ j := Nat.mod_le _ _
    have : ((j % (m / Nat.gcd step m) : Nat) : Int) * (coin : Int) ≤ (j : Int) * coin := by
      rw [← Int.natCast_mul, ← Int.natCast_mul]
      exact Int.ofNat_le.mpr (Nat.mul_le_mul_right _ this)
    omega
end Law


namespace Law
open PySem PySem.Spec PyProof.Rows L2 L3
/-! ### built -/
def bte (X : D) (m : Int) (nd fl : List D) (c4 c5 : Cell) : En := [some (.sh, X), some (.sh, .int m), some (.own, .lst nd), some (.own, .lst fl), c4, c5]
/-- a coin that is paid already -/
theorem bt_no (C : CR) (X : D) (m c s v : Int) (nd fl : List D) (c4 c5 : Cell) (h4 : okc c4) (h5 : okc c5) (hm : 0 < m) (hs : c % m = s) (hx : atI fl s = some (.int v)) (hv : v ≤ c) :
    ((stR (stTg (.nm 4) (.int c) false (bte X m nd fl c4 c5))).bind fun _ en => evSs WN C (mdOf tb) F6_0 en) = .ok .nx (bte X m nd fl (some (.sh, .int c)) (some (.sh, .int v))) := by
  have hv : ¬ c < v := by omega
  rcases h4 with rfl | ⟨_, rfl⟩ <;> rcases h5 with rfl | ⟨_, rfl⟩ <;> simp [L3.evSs, L3.evS.eq_1, L3.evS.eq_2, L3.evS.eq_3, L3.evS.eq_4, L3.evS.eq_5, L3.evS.eq_6, L3.evS.eq_9, L3.evS.eq_10, L3.evS.eq_11, L3.evS.eq_12, L3.evS.eq_13, L3.evS.eq_14, L3.evE.eq_1, L3.evE.eq_2, L3.evE.eq_3, L3.evE.eq_4, L3.evE.eq_5, L3.evE.eq_6, L3.evE.eq_7, L3.evE.eq_8, L3.evE.eq_9, L3.evE.eq_10, L3.evE.eq_11, L3.evE.eq_12, L3.evE.eq_13, L3.evE.eq_14, L3.evE.eq_15, L3.evE.eq_16, L3.evE.eq_18, L3.evE.eq_19, L3.evE.eq_20, L3.evE.eq_21, L3.evA, L3.evP, Law.evS_whlR, Law.evS_frR, Law.evE_lcR, Law.evS_frpR, Law.evE_lcpR, L3.walkP, L3.walkD, L3.unfzO, L3.unfz, Law.frR_nil, Law.frR_cons, Law.lcR_nil, Law.lcR_cons, L3.argOf, L3.Rs.bind, L3.opFin, L3.avDs, L3.avD, L3.vDs, L3.Op.keeps, L3.Op.run, L3.i1, L3.i2, L3.a1, L3.a2, L3.l1, L3.gd, L3.oB, L3.oI, L3.toB, L3.toI, L3.rdVar, L3.mvVar, L3.stVar, L3.stR, L3.stTg, L3.stVars, L3.stVarsO, L3.passA, L3.backA, L3.doCall, L3.cellOf, L3.start3, Law.outs1, Law.outs2, Law.outs3, Law.outs4, L3.resOf, L3.runFn, L3.keepB, L3.Ow.isB, L3.Ow.isOwn, L3.isTys, L3.isTy, L3.itFin, L3.ItK.run, L3.kRng1, L3.kRng2, L3.kSeq, L3.seqD, L3.seqD2, L3.kEnm, L3.enmD, Law.fit_of, Law.fit3, L3.noEr, L3.slFin, L3.slice3, L3.shE, L3.Tg.slots, L3.wipeE, L3.restE, L3.asB, Law.sz0, Law.sz1, Law.sz2, L3.rAdd3, L3.rLen3, L3.rLt3, L3.rIdx3, Law.at30, Law.at31, Law.at32, Law.at20, Law.at21, L3.isNone, Law.eqD_int, Law.md0, Law.md1, Law.md2, Law.md3, Law.md4, Law.md5, Law.md6, Law.md7, Law.md8, Law.md9, Law.md10, Law.md11, Law.md12, Law.md13, Law.md14, Law.md15, Law.md16, Law.md17, Law.md18, Law.md19, Law.md20, Law.md21, Law.md22, Law.md23, Law.md24, Law.md25, F6_0, bte, hm, hs, hx, hv]
/-- a new coin -/
theorem bt_yes (C : CR) (X : D) (m c s : Int) (nd fl fl' : List D) (x : D) (c4 c5 : Cell) (h4 : okc c4) (h5 : okc c5) (hm : 0 < m) (hs : c % m = s) (hx : atI fl s = some x) (hv : x = .non ∨ ∃ v, x = .int v ∧ c < v) (hz : nd.length < sizeLine)
    (hc : C 5 [(true, .lst fl), (false, .int c), (false, .int s), (false, .int m)] = .ok .non false [some (.brw, .lst fl'), none, none, none]) :
    ((stR (stTg (.nm 4) (.int c) false (bte X m nd fl c4 c5))).bind fun _ en => evSs WN C (mdOf tb) F6_0 en) = .ok .nx (bte X m (nd ++ [.int c]) fl' (some (.sh, .int c)) (some (.sh, x))) := by
  rcases hv with rfl | ⟨v, rfl, hv⟩
  · rcases h4 with rfl | ⟨_, rfl⟩ <;> rcases h5 with rfl | ⟨_, rfl⟩ <;> simp [L3.evSs, L3.evS.eq_1, L3.evS.eq_2, L3.evS.eq_3, L3.evS.eq_4, L3.evS.eq_5, L3.evS.eq_6, L3.evS.eq_9, L3.evS.eq_10, L3.evS.eq_11, L3.evS.eq_12, L3.evS.eq_13, L3.evS.eq_14, L3.evE.eq_1, L3.evE.eq_2, L3.evE.eq_3, L3.evE.eq_4, L3.evE.eq_5, L3.evE.eq_6, L3.evE.eq_7, L3.evE.eq_8, L3.evE.eq_9, L3.evE.eq_10, L3.evE.eq_11, L3.evE.eq_12, L3.evE.eq_13, L3.evE.eq_14, L3.evE.eq_15, L3.evE.eq_16, L3.evE.eq_18, L3.evE.eq_19, L3.evE.eq_20, L3.evE.eq_21, L3.evA, L3.evP, Law.evS_whlR, Law.evS_frR, Law.evE_lcR, Law.evS_frpR, Law.evE_lcpR, L3.walkP, L3.walkD, L3.unfzO, L3.unfz, Law.frR_nil, Law.frR_cons, Law.lcR_nil, Law.lcR_cons, L3.argOf, L3.Rs.bind, L3.opFin, L3.avDs, L3.avD, L3.vDs, L3.Op.keeps, L3.Op.run, L3.i1, L3.i2, L3.a1, L3.a2, L3.l1, L3.gd, L3.oB, L3.oI, L3.toB, L3.toI, L3.rdVar, L3.mvVar, L3.stVar, L3.stR, L3.stTg, L3.stVars, L3.stVarsO, L3.passA, L3.backA, L3.doCall, L3.cellOf, L3.start3, Law.outs1, Law.outs2, Law.outs3, Law.outs4, L3.resOf, L3.runFn, L3.keepB, L3.Ow.isB, L3.Ow.isOwn, L3.isTys, L3.isTy, L3.itFin, L3.ItK.run, L3.kRng1, L3.kRng2, L3.kSeq, L3.seqD, L3.seqD2, L3.kEnm, L3.enmD, Law.fit_of, Law.fit3, L3.noEr, L3.slFin, L3.slice3, L3.shE, L3.Tg.slots, L3.wipeE, L3.restE, L3.asB, Law.sz0, Law.sz1, Law.sz2, L3.rAdd3, L3.rLen3, L3.rLt3, L3.rIdx3, Law.at30, Law.at31, Law.at32, Law.at20, Law.at21, L3.isNone, Law.eqD_int, Law.md0, Law.md1, Law.md2, Law.md3, Law.md4, Law.md5, Law.md6, Law.md7, Law.md8, Law.md9, Law.md10, Law.md11, Law.md12, Law.md13, Law.md14, Law.md15, Law.md16, Law.md17, Law.md18, Law.md19, Law.md20, Law.md21, Law.md22, Law.md23, Law.md24, Law.md25, F6_0, bte, hm, hs, hx, hc, mtFin, mtAt, mtPre, Mt.run, hz]
  · rcases h4 with rfl | ⟨_, rfl⟩ <;> rcases h5 with rfl | ⟨_, rfl⟩ <;> simp [L3.evSs, L3.evS.eq_1, L3.evS.eq_2, L3.evS.eq_3, L3.evS.eq_4, L3.evS.eq_5, L3.evS.eq_6, L3.evS.eq_9, L3.evS.eq_10, L3.evS.eq_11, L3.evS.eq_12, L3.evS.eq_13, L3.evS.eq_14, L3.evE.eq_1, L3.evE.eq_2, L3.evE.eq_3, L3.evE.eq_4, L3.evE.eq_5, L3.evE.eq_6, L3.evE.eq_7, L3.evE.eq_8, L3.evE.eq_9, L3.evE.eq_10, L3.evE.eq_11, L3.evE.eq_12, L3.evE.eq_13, L3.evE.eq_14, L3.evE.eq_15, L3.evE.eq_16, L3.evE.eq_18, L3.evE.eq_19, L3.evE.eq_20, L3.evE.eq_21, L3.evA, L3.evP, Law.evS_whlR, Law.evS_frR, Law.evE_lcR, Law.evS_frpR, Law.evE_lcpR, L3.walkP, L3.walkD, L3.unfzO, L3.unfz, Law.frR_nil, Law.frR_cons, Law.lcR_nil, Law.lcR_cons, L3.argOf, L3.Rs.bind, L3.opFin, L3.avDs, L3.avD, L3.vDs, L3.Op.keeps, L3.Op.run, L3.i1, L3.i2, L3.a1, L3.a2, L3.l1, L3.gd, L3.oB, L3.oI, L3.toB, L3.toI, L3.rdVar, L3.mvVar, L3.stVar, L3.stR, L3.stTg, L3.stVars, L3.stVarsO, L3.passA, L3.backA, L3.doCall, L3.cellOf, L3.start3, Law.outs1, Law.outs2, Law.outs3, Law.outs4, L3.resOf, L3.runFn, L3.keepB, L3.Ow.isB, L3.Ow.isOwn, L3.isTys, L3.isTy, L3.itFin, L3.ItK.run, L3.kRng1, L3.kRng2, L3.kSeq, L3.seqD, L3.seqD2, L3.kEnm, L3.enmD, Law.fit_of, Law.fit3, L3.noEr, L3.slFin, L3.slice3, L3.shE, L3.Tg.slots, L3.wipeE, L3.restE, L3.asB, Law.sz0, Law.sz1, Law.sz2, L3.rAdd3, L3.rLen3, L3.rLt3, L3.rIdx3, Law.at30, Law.at31, Law.at32, Law.at20, Law.at21, L3.isNone, Law.eqD_int, Law.md0, Law.md1, Law.md2, Law.md3, Law.md4, Law.md5, Law.md6, Law.md7, Law.md8, Law.md9, Law.md10, Law.md11, Law.md12, Law.md13, Law.md14, Law.md15, Law.md16, Law.md17, Law.md18, Law.md19, Law.md20, Law.md21, Law.md22, Law.md23, Law.md24, Law.md25, F6_0, bte, hm, hs, hx, hc, hv, mtFin, mtAt, mtPre, Mt.run, hz]
theorem bt_init (C : CR) (X : List D) (mI : Int) (m : Nat) (hx : atI X 0 = some (.int mI)) (hk : (mI - 1).toNat = m - 1) (h1 : 0 ≤ mI - 1 ∧ mI - 1 < 50000) (ss : Ss) :
    evSs WN C (mdOf tb) (.cons (.asg (.nm 1) (.op .idx (.cons (.pk 0) (.cons (.cst (.int 0)) .nil)))) (.cons (.par [2, 3] (.cons (.op .lst (.cons (.var 1) .nil)) (.cons (.op .add (.cons (.op .lst (.cons (.cst (.int 0)) .nil)) (.cons (.op .rep (.cons (.op .lst (.cons (.cst .non) .nil)) (.cons (.op .sub (.cons (.pk 1) (.cons (.cst (.int 1)) .nil))) .nil))) .nil))) .nil))) ss)) [some (.sh, .lst X), none, none, none, none, none] = evSs WN C (mdOf tb) ss (bte (.lst X) mI [.int mI] (fl0 m) none none) := by
  have hr : rRep3 [.lst [.non], .int (mI - 1)] = some (.lst (List.replicate (m - 1) .non), true) := by
    unfold rRep3
    have g1 : decide (-(2 ^ 63) ≤ mI - 1 ∧ mI - 1 < 2 ^ 63) = true := decide_eq_true ⟨by omega, by omega⟩
    have g2 : fit ([D.non].length * (mI - 1).toNat) = true := fit_of (by rw [hk]; simp; omega)
    show gd (decide (-(2 ^ 63) ≤ mI - 1 ∧ mI - 1 < 2 ^ 63) && fit ([D.non].length * (mI - 1).toNat)) _ = _
    rw [g1, g2]
    show some (D.lst ((List.replicate (mI - 1).toNat [D.non]).flatten), true) = _
    rw [hk, List.flatten_replicate_singleton]
  have hf : fit (1 + (m - 1)) = true := fit_of (by omega)
  have s1 : Ps WN C (mdOf tb) [some (.sh, .lst X), none, none, none, none, none] (.asg (.nm 1) (.op .idx (.cons (.pk 0) (.cons (.cst (.int 0)) .nil)))) [some (.sh, .lst X), some (.sh, .int mI), none, none, none, none] := by
    unfold Ps
    simp [L3.evSs, L3.evS.eq_1, L3.evS.eq_2, L3.evS.eq_3, L3.evS.eq_4, L3.evS.eq_5, L3.evS.eq_6, L3.evS.eq_9, L3.evS.eq_10, L3.evS.eq_11, L3.evS.eq_12, L3.evS.eq_13, L3.evS.eq_14, L3.evE.eq_1, L3.evE.eq_2, L3.evE.eq_3, L3.evE.eq_4, L3.evE.eq_5, L3.evE.eq_6, L3.evE.eq_7, L3.evE.eq_8, L3.evE.eq_9, L3.evE.eq_10, L3.evE.eq_11, L3.evE.eq_12, L3.evE.eq_13, L3.evE.eq_14, L3.evE.eq_15, L3.evE.eq_16, L3.evE.eq_18, L3.evE.eq_19, L3.evE.eq_20, L3.evE.eq_21, L3.evA, L3.evP, Law.evS_whlR, Law.evS_frR, Law.evE_lcR, Law.evS_frpR, Law.evE_lcpR, L3.walkP, L3.walkD, L3.unfzO, L3.unfz, Law.frR_nil, Law.frR_cons, Law.lcR_nil, Law.lcR_cons, L3.argOf, L3.Rs.bind, L3.opFin, L3.avDs, L3.avD, L3.vDs, L3.Op.keeps, L3.Op.run, L3.i1, L3.i2, L3.a1, L3.a2, L3.l1, L3.gd, L3.oB, L3.oI, L3.toB, L3.toI, L3.rdVar, L3.mvVar, L3.stVar, L3.stR, L3.stTg, L3.stVars, L3.stVarsO, L3.passA, L3.backA, L3.doCall, L3.cellOf, L3.start3, Law.outs1, Law.outs2, Law.outs3, Law.outs4, L3.resOf, L3.runFn, L3.keepB, L3.Ow.isB, L3.Ow.isOwn, L3.isTys, L3.isTy, L3.itFin, L3.ItK.run, L3.kRng1, L3.kRng2, L3.kSeq, L3.seqD, L3.seqD2, L3.kEnm, L3.enmD, Law.fit_of, Law.fit3, L3.noEr, L3.slFin, L3.slice3, L3.shE, L3.Tg.slots, L3.wipeE, L3.restE, L3.asB, Law.sz0, Law.sz1, Law.sz2, L3.rAdd3, L3.rLen3, L3.rLt3, L3.rIdx3, Law.at30, Law.at31, Law.at32, Law.at20, Law.at21, L3.isNone, Law.eqD_int, Law.md0, Law.md1, Law.md2, Law.md3, Law.md4, Law.md5, Law.md6, Law.md7, Law.md8, Law.md9, Law.md10, Law.md11, Law.md12, Law.md13, Law.md14, Law.md15, Law.md16, Law.md17, Law.md18, Law.md19, Law.md20, Law.md21, Law.md22, Law.md23, Law.md24, Law.md25, hx]
  have s2 : Ps WN C (mdOf tb) [some (.sh, .lst X), some (.sh, .int mI), none, none, none, none] (.par [2, 3] (.cons (.op .lst (.cons (.var 1) .nil)) (.cons (.op .add (.cons (.op .lst (.cons (.cst (.int 0)) .nil)) (.cons (.op .rep (.cons (.op .lst (.cons (.cst .non) .nil)) (.cons (.op .sub (.cons (.pk 1) (.cons (.cst (.int 1)) .nil))) .nil))) .nil))) .nil))) (bte (.lst X) mI [.int mI] (fl0 m) none none) := by
    unfold Ps
    simp [L3.evSs, L3.evS.eq_1, L3.evS.eq_2, L3.evS.eq_3, L3.evS.eq_4, L3.evS.eq_5, L3.evS.eq_6, L3.evS.eq_9, L3.evS.eq_10, L3.evS.eq_11, L3.evS.eq_12, L3.evS.eq_13, L3.evS.eq_14, L3.evE.eq_1, L3.evE.eq_2, L3.evE.eq_3, L3.evE.eq_4, L3.evE.eq_5, L3.evE.eq_6, L3.evE.eq_7, L3.evE.eq_8, L3.evE.eq_9, L3.evE.eq_10, L3.evE.eq_11, L3.evE.eq_12, L3.evE.eq_13, L3.evE.eq_14, L3.evE.eq_15, L3.evE.eq_16, L3.evE.eq_18, L3.evE.eq_19, L3.evE.eq_20, L3.evE.eq_21, L3.evA, L3.evP, Law.evS_whlR, Law.evS_frR, Law.evE_lcR, Law.evS_frpR, Law.evE_lcpR, L3.walkP, L3.walkD, L3.unfzO, L3.unfz, Law.frR_nil, Law.frR_cons, Law.lcR_nil, Law.lcR_cons, L3.argOf, L3.Rs.bind, L3.opFin, L3.avDs, L3.avD, L3.vDs, L3.Op.keeps, L3.Op.run, L3.i1, L3.i2, L3.a1, L3.a2, L3.l1, L3.gd, L3.oB, L3.oI, L3.toB, L3.toI, L3.rdVar, L3.mvVar, L3.stVar, L3.stR, L3.stTg, L3.stVars, L3.stVarsO, L3.passA, L3.backA, L3.doCall, L3.cellOf, L3.start3, Law.outs1, Law.outs2, Law.outs3, Law.outs4, L3.resOf, L3.runFn, L3.keepB, L3.Ow.isB, L3.Ow.isOwn, L3.isTys, L3.isTy, L3.itFin, L3.ItK.run, L3.kRng1, L3.kRng2, L3.kSeq, L3.seqD, L3.seqD2, L3.kEnm, L3.enmD, Law.fit_of, Law.fit3, L3.noEr, L3.slFin, L3.slice3, L3.shE, L3.Tg.slots, L3.wipeE, L3.restE, L3.asB, Law.sz0, Law.sz1, Law.sz2, L3.rAdd3, L3.rLen3, L3.rLt3, L3.rIdx3, Law.at30, Law.at31, Law.at32, Law.at20, Law.at21, L3.isNone, Law.eqD_int, Law.md0, Law.md1, Law.md2, Law.md3, Law.md4, Law.md5, Law.md6, Law.md7, Law.md8, Law.md9, Law.md10, Law.md11, Law.md12, Law.md13, Law.md14, Law.md15, Law.md16, Law.md17, Law.md18, Law.md19, Law.md20, Law.md21, Law.md22, Law.md23, Law.md24, Law.md25, hr, hf, bte, fl0]
  exact (ss_step s1).trans (ss_step s2)
theorem bt_items (C : CR) (c : D) (xs : List D) (m : Int) (nd fl : List D) : evA C (mdOf tb) (.cons (.slA (.pk 0) (.cst (.int 1))) .nil) (bte (.lst (c :: xs)) m nd fl none none) = .ok [.v (.lst xs)] (bte (.lst (c :: xs)) m nd fl none none) := by
  have e := cut_drop1 c xs
  simp [L3.evSs, L3.evS.eq_1, L3.evS.eq_2, L3.evS.eq_3, L3.evS.eq_4, L3.evS.eq_5, L3.evS.eq_6, L3.evS.eq_9, L3.evS.eq_10, L3.evS.eq_11, L3.evS.eq_12, L3.evS.eq_13, L3.evS.eq_14, L3.evE.eq_1, L3.evE.eq_2, L3.evE.eq_3, L3.evE.eq_4, L3.evE.eq_5, L3.evE.eq_6, L3.evE.eq_7, L3.evE.eq_8, L3.evE.eq_9, L3.evE.eq_10, L3.evE.eq_11, L3.evE.eq_12, L3.evE.eq_13, L3.evE.eq_14, L3.evE.eq_15, L3.evE.eq_16, L3.evE.eq_18, L3.evE.eq_19, L3.evE.eq_20, L3.evE.eq_21, L3.evA, L3.evP, Law.evS_whlR, Law.evS_frR, Law.evE_lcR, Law.evS_frpR, Law.evE_lcpR, L3.walkP, L3.walkD, L3.unfzO, L3.unfz, Law.frR_nil, Law.frR_cons, Law.lcR_nil, Law.lcR_cons, L3.argOf, L3.Rs.bind, L3.opFin, L3.avDs, L3.avD, L3.vDs, L3.Op.keeps, L3.Op.run, L3.i1, L3.i2, L3.a1, L3.a2, L3.l1, L3.gd, L3.oB, L3.oI, L3.toB, L3.toI, L3.rdVar, L3.mvVar, L3.stVar, L3.stR, L3.stTg, L3.stVars, L3.stVarsO, L3.passA, L3.backA, L3.doCall, L3.cellOf, L3.start3, Law.outs1, Law.outs2, Law.outs3, Law.outs4, L3.resOf, L3.runFn, L3.keepB, L3.Ow.isB, L3.Ow.isOwn, L3.isTys, L3.isTy, L3.itFin, L3.ItK.run, L3.kRng1, L3.kRng2, L3.kSeq, L3.seqD, L3.seqD2, L3.kEnm, L3.enmD, Law.fit_of, Law.fit3, L3.noEr, L3.slFin, L3.slice3, L3.shE, L3.Tg.slots, L3.wipeE, L3.restE, L3.asB, Law.sz0, Law.sz1, Law.sz2, L3.rAdd3, L3.rLen3, L3.rLt3, L3.rIdx3, Law.at30, Law.at31, Law.at32, Law.at20, Law.at21, L3.isNone, Law.eqD_int, Law.md0, Law.md1, Law.md2, Law.md3, Law.md4, Law.md5, Law.md6, Law.md7, Law.md8, Law.md9, Law.md10, Law.md11, Law.md12, Law.md13, Law.md14, Law.md15, Law.md16, Law.md17, Law.md18, Law.md19, Law.md20, Law.md21, Law.md22, Law.md23, Law.md24, Law.md25, bte, e]
theorem bt_ret (C : CR) (X : D) (m : Int) (nd fl : List D) (c4 c5 : Cell) : evSs WN C (mdOf tb) (.cons (.ret (.op .tup (.cons (.var 2) (.cons (.var 3) .nil)))) .nil) (bte X m nd fl c4 c5) = .ok (.rt (.tup [.lst nd, .lst fl]) false) [some (.sh, X), some (.sh, .int m), some (.sh, .lst nd), some (.sh, .lst fl), c4, c5] := by
  simp [L3.evSs, L3.evS.eq_1, L3.evS.eq_2, L3.evS.eq_3, L3.evS.eq_4, L3.evS.eq_5, L3.evS.eq_6, L3.evS.eq_9, L3.evS.eq_10, L3.evS.eq_11, L3.evS.eq_12, L3.evS.eq_13, L3.evS.eq_14, L3.evE.eq_1, L3.evE.eq_2, L3.evE.eq_3, L3.evE.eq_4, L3.evE.eq_5, L3.evE.eq_6, L3.evE.eq_7, L3.evE.eq_8, L3.evE.eq_9, L3.evE.eq_10, L3.evE.eq_11, L3.evE.eq_12, L3.evE.eq_13, L3.evE.eq_14, L3.evE.eq_15, L3.evE.eq_16, L3.evE.eq_18, L3.evE.eq_19, L3.evE.eq_20, L3.evE.eq_21, L3.evA, L3.evP, Law.evS_whlR, Law.evS_frR, Law.evE_lcR, Law.evS_frpR, Law.evE_lcpR, L3.walkP, L3.walkD, L3.unfzO, L3.unfz, Law.frR_nil, Law.frR_cons, Law.lcR_nil, Law.lcR_cons, L3.argOf, L3.Rs.bind, L3.opFin, L3.avDs, L3.avD, L3.vDs, L3.Op.keeps, L3.Op.run, L3.i1, L3.i2, L3.a1, L3.a2, L3.l1, L3.gd, L3.oB, L3.oI, L3.toB, L3.toI, L3.rdVar, L3.mvVar, L3.stVar, L3.stR, L3.stTg, L3.stVars, L3.stVarsO, L3.passA, L3.backA, L3.doCall, L3.cellOf, L3.start3, Law.outs1, Law.outs2, Law.outs3, Law.outs4, L3.resOf, L3.runFn, L3.keepB, L3.Ow.isB, L3.Ow.isOwn, L3.isTys, L3.isTy, L3.itFin, L3.ItK.run, L3.kRng1, L3.kRng2, L3.kSeq, L3.seqD, L3.seqD2, L3.kEnm, L3.enmD, Law.fit_of, Law.fit3, L3.noEr, L3.slFin, L3.slice3, L3.shE, L3.Tg.slots, L3.wipeE, L3.restE, L3.asB, Law.sz0, Law.sz1, Law.sz2, L3.rAdd3, L3.rLen3, L3.rLt3, L3.rIdx3, Law.at30, Law.at31, Law.at32, Law.at20, Law.at21, L3.isNone, Law.eqD_int, Law.md0, Law.md1, Law.md2, Law.md3, Law.md4, Law.md5, Law.md6, Law.md7, Law.md8, Law.md9, Law.md10, Law.md11, Law.md12, Law.md13, Law.md14, Law.md15, Law.md16, Law.md17, Law.md18, Law.md19, Law.md20, Law.md21, Law.md22, Law.md23, Law.md24, Law.md25, bte]
theorem c_built (n : Nat) (m : Nat) (L : List Nat) (hm : 0 < m) (hm2 : m < 50000) (hL : L.length ≤ 10000) :
    ∃ fl, Tab (m :: L) m fl ∧ callD tb WN (n + 4) 6 [(false, .lst (intN (m :: L)))] = .ok (.tup [.lst (intN (ndF [] (m :: L))), .lst fl]) false [none] := by
  obtain ⟨en', e1, hend⟩ := frR_lst (w := WN) (C := callD tb WN (n + 3)) (md := mdOf tb) (tg := .nm 4) (b := F6_0)
    (fun ys en => ∀ qs : List Nat, (∃ rs, L = qs ++ rs) → ys = intN qs → ∃ fl c4 c5, en = bte (.lst (intN (m :: L))) m (intN (ndF [] (m :: qs))) fl c4 c5 ∧ okc c4 ∧ okc c5 ∧ Tab (m :: qs) m fl)
    (intN L) [] (bte (.lst (intN (m :: L))) m [.int m] (fl0 m) none none) (by
      intro qs _ hq
      have : qs = [] := by
        cases qs with
        | nil => rfl
        | cons a r => cases hq
      subst this
      refine ⟨fl0 m, none, none, ?_, .inl rfl, .inl rfl, tab_start hm⟩
      show _ = bte _ _ (intN ((if gb [] m then [] else [m]) ++ [])) _ _ _
      rw [gb_nil hm]
      rfl) (by
      intro ps x qs hx en hi
      rw [List.nil_append] at hi ⊢
      -- the part gone
      obtain ⟨P, c, Q, eL, eP, ec, eQ⟩ : ∃ P c Q, L = P ++ c :: Q ∧ ps = intN P ∧ x = .int ((c : Nat) : Int) ∧ qs = intN Q := by
        have h1 : intN L = ps ++ x :: qs := hx
        unfold intN at h1
        obtain ⟨P, R, eL, eP, eR⟩ := List.map_eq_append_iff.mp h1
        obtain ⟨c, Q, eR', ec, eQ⟩ := List.map_eq_cons_iff.mp eR
        exact ⟨P, c, Q, by rw [eL, eR'], eP.symm, ec.symm, eQ.symm⟩
      subst eP ec
      obtain ⟨fl, c4, c5, e, h4, h5, T⟩ := hi P ⟨c :: Q, eL⟩ rfl
      subst e
      have hz : (intN (ndF [] (m :: P))).length < sizeLine := by
        rw [intN_len]
        have := ndF_len [] (m :: P)
        have : P.length ≤ L.length := by rw [eL]; simp
        simp only [List.length_cons] at *
        exact lt_sz (by omega)
      have hmm : m ∈ m :: P := List.mem_cons_self
      have key : ∀ (R : List Nat), ndF [] (m :: (P ++ [c])) = ndF [] (m :: P) ++ (if gb (m :: P) c then [] else [c]) := fun _ => ndF_snoc [] (m :: P) c
      obtain ⟨y, y1, hy⟩ := T.wf.at (Nat.mod_lt c hm)
      have hs : ((c : Nat) : Int) % (m : Int) = ((c % m : Nat) : Int) := (Int.natCast_emod c m).symm
      by_cases hg : gb (m :: P) c = true
      · obtain ⟨v, ev1, hv⟩ := (T.pays hmm c).mp (gb_iff.mp hg)
        have b := bt_no (callD tb WN (n + 3)) (.lst (intN (m :: L))) m c ((c % m : Nat) : Int) v (intN (ndF [] (m :: P))) fl c4 c5 h4 h5 (by omega) hs (L3.atI_nat ev1) hv
        refine ⟨_, b, fun qs' hq e => ?_⟩
        have : qs' = P ++ [c] := by
          have h2 : intN (P ++ [c]) = intN qs' := by rw [← e]; simp [intN]
          rw [intN_eq, intN_eq] at h2
          have h3 := congrArg asI h2
          rw [asI_int, asI_int] at h3
          exact (castL_inj.mp (Option.some.inj h3)).symm
        subst this
        refine ⟨fl, some (.sh, .int (c : Int)), some (.sh, .int v), ?_, okc_sh, okc_sh, T.same (gb_iff.mp hg)⟩
        rw [key [], hg]
        simp
      · have hg : gb (m :: P) c = false := by simpa using hg
        obtain ⟨fl', e1, R, J⟩ := c_round_up n fl c (c % m) m hm (by omega) (Nat.lt_trans (Nat.mod_lt _ hm) (by omega)) T.wf
        have hyv : y = .non ∨ ∃ v, y = .int v ∧ (c : Int) < v := by
          rcases hy with rfl | ⟨v, rfl⟩
          · exact .inl rfl
          · refine .inr ⟨v, rfl, ?_⟩
            apply Classical.byContradiction
            intro hle
            exact (gb_no.mp hg) ((T.pays hmm c).mpr ⟨v, y1, by omega⟩)
        have b := bt_yes (callD tb WN (n + 3)) (.lst (intN (m :: L))) m c ((c % m : Nat) : Int) (intN (ndF [] (m :: P))) fl fl' y c4 c5 h4 h5 (by omega) hs (L3.atI_nat y1) hyv hz e1
        refine ⟨_, b, fun qs' hq e => ?_⟩
        have : qs' = P ++ [c] := by
          have h2 : intN (P ++ [c]) = intN qs' := by rw [← e]; simp [intN]
          rw [intN_eq, intN_eq] at h2
          have h3 := congrArg asI h2
          rw [asI_int, asI_int] at h3
          exact (castL_inj.mp (Option.some.inj h3)).symm
        subst this
        refine ⟨fl', some (.sh, .int (c : Int)), some (.sh, y), ?_, okc_sh, okc_sh, T.next (c := c) hm R.wf (fun P' hp hs => R.sd P' hp hs) J⟩
        rw [key [], hg]
        simp [intN])
  obtain ⟨fl, c4, c5, e2, h4, h5, T⟩ := hend L ⟨[], by simp⟩ (by simp)
  subst e2
  refine ⟨fl, T, ?_⟩
  rw [u6]
  have s0 := bt_init (callD tb WN (n + 3)) (intN (m :: L)) m m (L3.atI_nat (j := 0) (x := .int (m : Int)) rfl) (by omega) (by omega) (.cons (.fr (.nm 4) .seq (.cons (.slA (.pk 0) (.cst (.int 1))) .nil) F6_0) (.cons (.ret (.op .tup (.cons (.var 2) (.cons (.var 3) .nil)))) .nil))
  have s1 : Ps WN (callD tb WN (n + 3)) (mdOf tb) (bte (.lst (intN (m :: L))) m [.int m] (fl0 m) none none) (.fr (.nm 4) .seq (.cons (.slA (.pk 0) (.cst (.int 1))) .nil) F6_0) (bte (.lst (intN (m :: L))) m (intN (ndF [] (m :: L))) fl c4 c5) := by
    unfold Ps
    have ea := bt_items (callD tb WN (n + 3)) (.int (m : Int)) (intN L) m [.int m] (fl0 m)
    have ei : ∀ en : En, itFin .seq [.v (.lst (intN L))] en = .ok (intN L) en := fun en => rfl
    rw [evS_frR]
    have ea' : evA (callD tb WN (n + 3)) (mdOf tb) (.cons (.slA (.pk 0) (.cst (.int 1))) .nil) (bte (.lst (intN (m :: L))) m [.int m] (fl0 m) none none) = .ok [.v (.lst (intN L))] (bte (.lst (intN (m :: L))) m [.int m] (fl0 m) none none) := ea
    rw [ea']
    simp only [Rs.bind, ei]
    exact e1
  have e5 := s0.trans ((ss_step s1).trans (bt_ret _ _ _ _ _ c4 c5))
  exact (congrArg (resOf 1) e5).trans rfl
end Law


namespace Law
open PySem PySem.Spec PyProof.Rows L2 L3
/-! ### check_coins -/
structure VC (L : List Nat) : Prop where
  ne : L ≠ []
  rng : ∀ c ∈ L, 1 ≤ c ∧ c ≤ 1000000
  nd : L.Nodup
  len : L.length ≤ 700
  mn : ∃ c ∈ L, c ≤ 2000
  g : gcdL L = 1
theorem minL_some : ∀ {L : List Int}, L ≠ [] → ∃ m, minL L = some m
  | [], h => absurd rfl h
  | a :: r, _ => by
    unfold minL
    cases minL r with
    | none => exact ⟨_, rfl⟩
    | some b => exact ⟨_, rfl⟩
theorem mem_enmD : ∀ {xs : List D} {n : Nat} {d : D}, d ∈ enmD n xs → ∃ k x, d = .tup [.int ((n + k : Nat) : Int), x] ∧ xs[k]? = some x
  | [], n, d, h => by simp [enmD] at h
  | x :: xs, n, d, h => by
    rw [enmD] at h
    rcases List.mem_cons.mp h with rfl | h
    · exact ⟨0, x, rfl, rfl⟩
    · obtain ⟨k, y, e, hy⟩ := mem_enmD h
      exact ⟨k + 1, y, by rw [e, show n + 1 + k = n + (k + 1) by omega], hy⟩
theorem ck_body (C : CR) (X : List D) (K c : Int) (c1 c2 : Cell) (h1 : okc c1) (h2 : okc c2) (hK : K < 700) (hw : C 1 [(false, .int c), (false, .int 1), (false, .int 1000000)] = .ok (.bl true) false [none, none, none]) (hin : inP (.int c) (.tup (cut X none (some K))) = some false) :
    ((stR (stTg (.tp [1, 2]) (.tup [.int K, .int c]) false [some (.sh, .tup X), c1, c2])).bind fun _ en => evSs WN C (mdOf tb) F7_0 en) = .ok .nx [some (.sh, .tup X), some (.sh, .int K), some (.sh, .int c)] := by
  have hK : ¬ 700 ≤ K := by omega
  rcases h1 with rfl | ⟨_, rfl⟩ <;> rcases h2 with rfl | ⟨_, rfl⟩ <;> simp [L3.evSs, L3.evS.eq_1, L3.evS.eq_2, L3.evS.eq_3, L3.evS.eq_4, L3.evS.eq_5, L3.evS.eq_6, L3.evS.eq_9, L3.evS.eq_10, L3.evS.eq_11, L3.evS.eq_12, L3.evS.eq_13, L3.evS.eq_14, L3.evE.eq_1, L3.evE.eq_2, L3.evE.eq_3, L3.evE.eq_4, L3.evE.eq_5, L3.evE.eq_6, L3.evE.eq_7, L3.evE.eq_8, L3.evE.eq_9, L3.evE.eq_10, L3.evE.eq_11, L3.evE.eq_12, L3.evE.eq_13, L3.evE.eq_14, L3.evE.eq_15, L3.evE.eq_16, L3.evE.eq_18, L3.evE.eq_19, L3.evE.eq_20, L3.evE.eq_21, L3.evA, L3.evP, Law.evS_whlR, Law.evS_frR, Law.evE_lcR, Law.evS_frpR, Law.evE_lcpR, L3.walkP, L3.walkD, L3.unfzO, L3.unfz, Law.frR_nil, Law.frR_cons, Law.lcR_nil, Law.lcR_cons, L3.argOf, L3.Rs.bind, L3.opFin, L3.avDs, L3.avD, L3.vDs, L3.Op.keeps, L3.Op.run, L3.i1, L3.i2, L3.a1, L3.a2, L3.l1, L3.gd, L3.oB, L3.oI, L3.toB, L3.toI, L3.rdVar, L3.mvVar, L3.stVar, L3.stR, L3.stTg, L3.stVars, L3.stVarsO, L3.passA, L3.backA, L3.doCall, L3.cellOf, L3.start3, Law.outs1, Law.outs2, Law.outs3, Law.outs4, L3.resOf, L3.runFn, L3.keepB, L3.Ow.isB, L3.Ow.isOwn, L3.isTys, L3.isTy, L3.itFin, L3.ItK.run, L3.kRng1, L3.kRng2, L3.kSeq, L3.seqD, L3.seqD2, L3.kEnm, L3.enmD, Law.fit_of, Law.fit3, L3.noEr, L3.slFin, L3.slice3, L3.shE, L3.Tg.slots, L3.wipeE, L3.restE, L3.asB, Law.sz0, Law.sz1, Law.sz2, L3.rAdd3, L3.rLen3, L3.rLt3, L3.rIdx3, Law.at30, Law.at31, Law.at32, Law.at20, Law.at21, L3.isNone, Law.eqD_int, Law.md0, Law.md1, Law.md2, Law.md3, Law.md4, Law.md5, Law.md6, Law.md7, Law.md8, Law.md9, Law.md10, Law.md11, Law.md12, Law.md13, Law.md14, Law.md15, Law.md16, Law.md17, Law.md18, Law.md19, Law.md20, Law.md21, Law.md22, Law.md23, Law.md24, Law.md25, F7_0, hK, hw, hin]
theorem c_check (n : Nat) {L : List Nat} (v : VC L) : callD tb WN (n + 3) 7 [(false, .tup (intN L))] = .ok .non false [none] := by
  obtain ⟨en', e1, c1, c2, h1, h2, e2⟩ := frR_inv (w := WN) (C := callD tb WN (n + 2)) (md := mdOf tb) (tg := .tp [1, 2]) (b := F7_0) (fun en => ∃ c1 c2, okc c1 ∧ okc c2 ∧ en = [some (.sh, .tup (intN L)), c1, c2]) (enmD 0 (intN L)) [some (.sh, .tup (intN L)), none, none] ⟨_, _, .inl rfl, .inl rfl, rfl⟩ (by
    intro d hd en ⟨c1, c2, h1, h2, e⟩
    subst e
    obtain ⟨k, x, rfl, hx⟩ := mem_enmD hd
    rw [Nat.zero_add]
    unfold intN at hx
    rw [List.getElem?_map] at hx
    cases hc : L[k]? with
    | none => rw [hc] at hx; cases hx
    | some c =>
      rw [hc] at hx
      cases hx
      obtain ⟨hk, hk2⟩ := List.getElem?_eq_some_iff.mp hc
      have hmem : c ∈ L := List.mem_of_getElem? hc
      have hr := v.rng c hmem
      have hw := c_within n (c : Int) 1 1000000
      rw [decide_eq_true (by omega), decide_eq_true (by omega)] at hw
      have hin : inP (.int (c : Int)) (.tup (cut (intN L) none (some (k : Int)))) = some false := by
        rw [cut_take _ _ (by rw [intN_len]; omega), intN_take, inP_intN, decide_eq_false]
        intro z
        obtain ⟨j, hj, e⟩ := List.getElem_of_mem z
        rw [List.length_take] at hj
        rw [List.getElem_take] at e
        have hlt : j < k := by omega
        exact absurd (e.trans hk2.symm) (List.pairwise_iff_getElem.mp v.nd j k (by omega) hk hlt)
      exact ⟨_, ck_body _ (intN L) k c c1 c2 h1 h2 (by have := v.len; omega) hw hin, _, _, okc_sh, okc_sh, rfl⟩)
  subst e2
  have hne : L.map (fun (k : Nat) => (k : Int)) ≠ [] := by
    intro z
    exact v.ne (List.map_eq_nil_iff.mp z)
  obtain ⟨mn, emn⟩ := minL_some hne
  have hmn : mn ≤ 2000 := by
    obtain ⟨c, hc, hle⟩ := v.mn
    have := (minL_ok emn).2 (c : Int) (mem_castL.mpr hc)
    omega
  have em : Op.min.run [.tup (intN L)] = some (.int mn, false) := by
    show oI ((asI (intN L)).bind minL) = _
    rw [asI_intN]
    show oI (minL _) = _
    rw [emn]; rfl
  have ec := c_common_of n L (.tup (intN L)) (.inl rfl) (fun x hx => Nat.lt_of_le_of_lt (v.rng x hx).2 (by decide))
  rw [v.g] at ec
  have hl : (intN L).length ≠ 0 := by
    rw [intN_len]
    intro z
    exact v.ne (List.length_eq_zero_iff.mp z)
  rw [u7]; unfold fn_check_coins
  generalize intN L = X at *
  have s1 : Ps WN (callD tb WN (n + 2)) (mdOf tb) [some (.sh, .tup X), none, none] (.ife (.or (.nt (.op (.isi [.tup]) (.cons (.pk 0) .nil))) (.op .eq (.cons (.op .len (.cons (.pk 0) .nil)) (.cons (.cst (.int 0)) .nil)))) (.cons (.rse 3 ["at"] (.cons (.op .neg (.cons (.cst (.int 1)) .nil)) .nil)) .nil) .nil) [some (.sh, .tup X), none, none] := by
    have hX : ¬ X = [] := by rintro rfl; exact hl rfl
    unfold Ps
    simp [L3.evSs, L3.evS.eq_1, L3.evS.eq_2, L3.evS.eq_3, L3.evS.eq_4, L3.evS.eq_5, L3.evS.eq_6, L3.evS.eq_9, L3.evS.eq_10, L3.evS.eq_11, L3.evS.eq_12, L3.evS.eq_13, L3.evS.eq_14, L3.evE.eq_1, L3.evE.eq_2, L3.evE.eq_3, L3.evE.eq_4, L3.evE.eq_5, L3.evE.eq_6, L3.evE.eq_7, L3.evE.eq_8, L3.evE.eq_9, L3.evE.eq_10, L3.evE.eq_11, L3.evE.eq_12, L3.evE.eq_13, L3.evE.eq_14, L3.evE.eq_15, L3.evE.eq_16, L3.evE.eq_18, L3.evE.eq_19, L3.evE.eq_20, L3.evE.eq_21, L3.evA, L3.evP, Law.evS_whlR, Law.evS_frR, Law.evE_lcR, Law.evS_frpR, Law.evE_lcpR, L3.walkP, L3.walkD, L3.unfzO, L3.unfz, Law.frR_nil, Law.frR_cons, Law.lcR_nil, Law.lcR_cons, L3.argOf, L3.Rs.bind, L3.opFin, L3.avDs, L3.avD, L3.vDs, L3.Op.keeps, L3.Op.run, L3.i1, L3.i2, L3.a1, L3.a2, L3.l1, L3.gd, L3.oB, L3.oI, L3.toB, L3.toI, L3.rdVar, L3.mvVar, L3.stVar, L3.stR, L3.stTg, L3.stVars, L3.stVarsO, L3.passA, L3.backA, L3.doCall, L3.cellOf, L3.start3, Law.outs1, Law.outs2, Law.outs3, Law.outs4, L3.resOf, L3.runFn, L3.keepB, L3.Ow.isB, L3.Ow.isOwn, L3.isTys, L3.isTy, L3.itFin, L3.ItK.run, L3.kRng1, L3.kRng2, L3.kSeq, L3.seqD, L3.seqD2, L3.kEnm, L3.enmD, Law.fit_of, Law.fit3, L3.noEr, L3.slFin, L3.slice3, L3.shE, L3.Tg.slots, L3.wipeE, L3.restE, L3.asB, Law.sz0, Law.sz1, Law.sz2, L3.rAdd3, L3.rLen3, L3.rLt3, L3.rIdx3, Law.at30, Law.at31, Law.at32, Law.at20, Law.at21, L3.isNone, Law.eqD_int, Law.md0, Law.md1, Law.md2, Law.md3, Law.md4, Law.md5, Law.md6, Law.md7, Law.md8, Law.md9, Law.md10, Law.md11, Law.md12, Law.md13, Law.md14, Law.md15, Law.md16, Law.md17, Law.md18, Law.md19, Law.md20, Law.md21, Law.md22, Law.md23, Law.md24, Law.md25, hX]
  have s2 : Ps WN (callD tb WN (n + 2)) (mdOf tb) [some (.sh, .tup X), none, none] (.fr (.tp [1, 2]) .enm (.cons (.var 0) .nil) F7_0) [some (.sh, .tup X), c1, c2] := by
    unfold Ps
    have ea : evA (callD tb WN (n + 2)) (mdOf tb) (.cons (.var 0) .nil) [some (.sh, .tup X), none, none] = .ok [.v (.tup X)] [some (.sh, .tup X), none, none] := by simp [L3.evSs, L3.evS.eq_1, L3.evS.eq_2, L3.evS.eq_3, L3.evS.eq_4, L3.evS.eq_5, L3.evS.eq_6, L3.evS.eq_9, L3.evS.eq_10, L3.evS.eq_11, L3.evS.eq_12, L3.evS.eq_13, L3.evS.eq_14, L3.evE.eq_1, L3.evE.eq_2, L3.evE.eq_3, L3.evE.eq_4, L3.evE.eq_5, L3.evE.eq_6, L3.evE.eq_7, L3.evE.eq_8, L3.evE.eq_9, L3.evE.eq_10, L3.evE.eq_11, L3.evE.eq_12, L3.evE.eq_13, L3.evE.eq_14, L3.evE.eq_15, L3.evE.eq_16, L3.evE.eq_18, L3.evE.eq_19, L3.evE.eq_20, L3.evE.eq_21, L3.evA, L3.evP, Law.evS_whlR, Law.evS_frR, Law.evE_lcR, Law.evS_frpR, Law.evE_lcpR, L3.walkP, L3.walkD, L3.unfzO, L3.unfz, Law.frR_nil, Law.frR_cons, Law.lcR_nil, Law.lcR_cons, L3.argOf, L3.Rs.bind, L3.opFin, L3.avDs, L3.avD, L3.vDs, L3.Op.keeps, L3.Op.run, L3.i1, L3.i2, L3.a1, L3.a2, L3.l1, L3.gd, L3.oB, L3.oI, L3.toB, L3.toI, L3.rdVar, L3.mvVar, L3.stVar, L3.stR, L3.stTg, L3.stVars, L3.stVarsO, L3.passA, L3.backA, L3.doCall, L3.cellOf, L3.start3, Law.outs1, Law.outs2, Law.outs3, Law.outs4, L3.resOf, L3.runFn, L3.keepB, L3.Ow.isB, L3.Ow.isOwn, L3.isTys, L3.isTy, L3.itFin, L3.ItK.run, L3.kRng1, L3.kRng2, L3.kSeq, L3.seqD, L3.seqD2, L3.kEnm, L3.enmD, Law.fit_of, Law.fit3, L3.noEr, L3.slFin, L3.slice3, L3.shE, L3.Tg.slots, L3.wipeE, L3.restE, L3.asB, Law.sz0, Law.sz1, Law.sz2, L3.rAdd3, L3.rLen3, L3.rLt3, L3.rIdx3, Law.at30, Law.at31, Law.at32, Law.at20, Law.at21, L3.isNone, Law.eqD_int, Law.md0, Law.md1, Law.md2, Law.md3, Law.md4, Law.md5, Law.md6, Law.md7, Law.md8, Law.md9, Law.md10, Law.md11, Law.md12, Law.md13, Law.md14, Law.md15, Law.md16, Law.md17, Law.md18, Law.md19, Law.md20, Law.md21, Law.md22, Law.md23, Law.md24, Law.md25]
    have ei : ∀ en : En, itFin .enm [.v (.tup X)] en = .ok (enmD 0 X) en := fun en => rfl
    rw [evS_frR, ea]
    simp only [Rs.bind, ei]
    exact e1
  have s3 : Ps WN (callD tb WN (n + 2)) (mdOf tb) [some (.sh, .tup X), c1, c2] (.ife (.or (.op .gt (.cons (.op .min (.cons (.pk 0) .nil)) (.cons (.op (.glb (.int 2000)) .nil) .nil))) (.op .ne (.cons (.call 3 (.cons (.pk 0) .nil)) (.cons (.cst (.int 1)) .nil)))) (.cons (.rse 3 ["at"] (.cons (.op .neg (.cons (.cst (.int 1)) .nil)) .nil)) .nil) .nil) [some (.sh, .tup X), c1, c2] := by
    refine ps_ifF (toB_ev (own := false) ?_)
    have q0 : ([some (.sh, .tup X), c1, c2] : En)[0]? = some (some (.sh, .tup X)) := rfl
    have g1 : evE (callD tb WN (n + 2)) (mdOf tb) (.op .min (.cons (.pk 0) .nil)) [some (.sh, .tup X), c1, c2] = .ok (.int mn, false) [some (.sh, .tup X), c1, c2] := evE_opU (ds := [.tup X]) (evA_consU (arg_pk q0) evA_nilU) rfl em
    have hmn2 : ¬ 2000 < mn := by omega
    have g2 : toB (evE (callD tb WN (n + 2)) (mdOf tb) (.op .gt (.cons (.op .min (.cons (.pk 0) .nil)) (.cons (.op (.glb (.int 2000)) .nil) .nil))) [some (.sh, .tup X), c1, c2]) = .ok false [some (.sh, .tup X), c1, c2] :=
      toB_ev (evE_opU (ds := [.int mn, .int 2000]) (p := (.bl false, false)) (evA_consU (arg_e g1) (evA_consU (arg_e pe_glb) evA_nilU)) rfl (by show some (D.bl (decide (2000 < mn)), false) = _; rw [decide_eq_false hmn2]))
    refine or_f g2 ?_
    simp [L3.evSs, L3.evS.eq_1, L3.evS.eq_2, L3.evS.eq_3, L3.evS.eq_4, L3.evS.eq_5, L3.evS.eq_6, L3.evS.eq_9, L3.evS.eq_10, L3.evS.eq_11, L3.evS.eq_12, L3.evS.eq_13, L3.evS.eq_14, L3.evE.eq_1, L3.evE.eq_2, L3.evE.eq_3, L3.evE.eq_4, L3.evE.eq_5, L3.evE.eq_6, L3.evE.eq_7, L3.evE.eq_8, L3.evE.eq_9, L3.evE.eq_10, L3.evE.eq_11, L3.evE.eq_12, L3.evE.eq_13, L3.evE.eq_14, L3.evE.eq_15, L3.evE.eq_16, L3.evE.eq_18, L3.evE.eq_19, L3.evE.eq_20, L3.evE.eq_21, L3.evA, L3.evP, Law.evS_whlR, Law.evS_frR, Law.evE_lcR, Law.evS_frpR, Law.evE_lcpR, L3.walkP, L3.walkD, L3.unfzO, L3.unfz, Law.frR_nil, Law.frR_cons, Law.lcR_nil, Law.lcR_cons, L3.argOf, L3.Rs.bind, L3.opFin, L3.avDs, L3.avD, L3.vDs, L3.Op.keeps, L3.Op.run, L3.i1, L3.i2, L3.a1, L3.a2, L3.l1, L3.gd, L3.oB, L3.oI, L3.toB, L3.toI, L3.rdVar, L3.mvVar, L3.stVar, L3.stR, L3.stTg, L3.stVars, L3.stVarsO, L3.passA, L3.backA, L3.doCall, L3.cellOf, L3.start3, Law.outs1, Law.outs2, Law.outs3, Law.outs4, L3.resOf, L3.runFn, L3.keepB, L3.Ow.isB, L3.Ow.isOwn, L3.isTys, L3.isTy, L3.itFin, L3.ItK.run, L3.kRng1, L3.kRng2, L3.kSeq, L3.seqD, L3.seqD2, L3.kEnm, L3.enmD, Law.fit_of, Law.fit3, L3.noEr, L3.slFin, L3.slice3, L3.shE, L3.Tg.slots, L3.wipeE, L3.restE, L3.asB, Law.sz0, Law.sz1, Law.sz2, L3.rAdd3, L3.rLen3, L3.rLt3, L3.rIdx3, Law.at30, Law.at31, Law.at32, Law.at20, Law.at21, L3.isNone, Law.eqD_int, Law.md0, Law.md1, Law.md2, Law.md3, Law.md4, Law.md5, Law.md6, Law.md7, Law.md8, Law.md9, Law.md10, Law.md11, Law.md12, Law.md13, Law.md14, Law.md15, Law.md16, Law.md17, Law.md18, Law.md19, Law.md20, Law.md21, Law.md22, Law.md23, Law.md24, Law.md25, ec]
  have e5 := (ss_step s1).trans ((ss_step s2).trans ((ss_step s3).trans ss_nilU))
  exact (congrArg (resOf 1) e5).trans rfl
/-! ### a system -/
def sN (L : List Nat) : List Nat := (sortI (L.map fun (k : Nat) => (k : Int))).map Int.toNat
theorem sN_int (L : List Nat) : (sortI (L.map fun (k : Nat) => (k : Int))).map D.int = intN (sN L) := by
  unfold intN sN
  rw [List.map_map]
  refine List.map_congr_left fun i hi => ?_
  have := (sortI_perm _).mem_iff.mp hi
  obtain ⟨k, _, rfl⟩ := List.mem_map.mp this
  rfl
theorem sN_perm (L : List Nat) : (sN L).Perm L := by
  have h := (sortI_perm (L.map fun (k : Nat) => (k : Int))).map Int.toNat
  rw [List.map_map] at h
  have e : List.map (Int.toNat ∘ fun (k : Nat) => (k : Int)) L = L := by
    have : (Int.toNat ∘ fun (k : Nat) => (k : Int)) = id := by funext k; rfl
    rw [this, List.map_id]
  rw [e] at h
  exact h
theorem sN_sorted (L : List Nat) : (sN L).Pairwise (· ≤ ·) := by
  unfold sN
  refine List.pairwise_map.mpr ((sortI_sorted _).imp fun {a b} h => ?_)
  omega
/-- a system of coins -/
def isSys (L : List Nat) (o : D) : Prop := ∃ m R vs, o = .obj 4 ["coins", "needed_coins", "rests"] [.tup (intN (m :: R)), .tup (intN (ndF [] (m :: R))), .tup (intN vs)] ∧ (m :: R).Perm L ∧ (m :: R).Pairwise (· ≤ ·) ∧ vs.length = m ∧ 0 < m ∧ m ≤ 2000 ∧ Tab (m :: R) m (intN vs)
theorem isSys.gen {L : List Nat} {m : Nat} {R : List Nat} (h : (m :: R).Perm L) (n : Nat) : Gen (m :: R) n ↔ Gen L n := ⟨fun z => z.sub fun c hc => h.mem_iff.mp hc, fun z => z.sub fun c hc => h.mem_iff.mpr hc⟩
theorem gcdL_perm {L M : List Nat} (h : ∀ c, c ∈ L ↔ c ∈ M) : gcdL L = gcdL M := Nat.dvd_antisymm (gcdL_dvd.mpr fun c hc => gcdL_dvd.mp (Nat.dvd_refl _) c ((h c).mpr hc)) (gcdL_dvd.mpr fun c hc => gcdL_dvd.mp (Nat.dvd_refl _) c ((h c).mp hc))
theorem sne1 : ¬ (Str.ofString "coins" = Str.ofString "needed_coins") := by decide +kernel
theorem sne2 : ¬ (Str.ofString "coins" = Str.ofString "rests") := by decide +kernel
theorem sne3 : ¬ (Str.ofString "needed_coins" = Str.ofString "rests") := by decide +kernel
theorem in_body (C : CR) (X Y Z W : List D) (is : List Int) (hY : (sortI is).map D.int = Y) (h1 : C 7 [(false, .tup X)] = .ok .non false [none]) (h2 : asI X = some is) (h3 : C 6 [(false, .lst Y)] = .ok (.tup [.lst Z, .lst W]) false [none]) :
    runFn WN C (mdOf tb) fn_System___init__ [(true, .obj 4 [] []), (false, .tup X)] = .ok .non false [some (.brw, .obj 4 ["coins", "needed_coins", "rests"] [.tup Y, .tup Z, .tup W]), none] := by
  unfold fn_System___init__
  simp [L3.evSs, L3.evS.eq_1, L3.evS.eq_2, L3.evS.eq_3, L3.evS.eq_4, L3.evS.eq_5, L3.evS.eq_6, L3.evS.eq_9, L3.evS.eq_10, L3.evS.eq_11, L3.evS.eq_12, L3.evS.eq_13, L3.evS.eq_14, L3.evE.eq_1, L3.evE.eq_2, L3.evE.eq_3, L3.evE.eq_4, L3.evE.eq_5, L3.evE.eq_6, L3.evE.eq_7, L3.evE.eq_8, L3.evE.eq_9, L3.evE.eq_10, L3.evE.eq_11, L3.evE.eq_12, L3.evE.eq_13, L3.evE.eq_14, L3.evE.eq_15, L3.evE.eq_16, L3.evE.eq_18, L3.evE.eq_19, L3.evE.eq_20, L3.evE.eq_21, L3.evA, L3.evP, Law.evS_whlR, Law.evS_frR, Law.evE_lcR, Law.evS_frpR, Law.evE_lcpR, L3.walkP, L3.walkD, L3.unfzO, L3.unfz, Law.frR_nil, Law.frR_cons, Law.lcR_nil, Law.lcR_cons, L3.argOf, L3.Rs.bind, L3.opFin, L3.avDs, L3.avD, L3.vDs, L3.Op.keeps, L3.Op.run, L3.i1, L3.i2, L3.a1, L3.a2, L3.l1, L3.gd, L3.oB, L3.oI, L3.toB, L3.toI, L3.rdVar, L3.mvVar, L3.stVar, L3.stR, L3.stTg, L3.stVars, L3.stVarsO, L3.passA, L3.backA, L3.doCall, L3.cellOf, L3.start3, Law.outs1, Law.outs2, Law.outs3, Law.outs4, L3.resOf, L3.runFn, L3.keepB, L3.Ow.isB, L3.Ow.isOwn, L3.isTys, L3.isTy, L3.itFin, L3.ItK.run, L3.kRng1, L3.kRng2, L3.kSeq, L3.seqD, L3.seqD2, L3.kEnm, L3.enmD, Law.fit_of, Law.fit3, L3.noEr, L3.slFin, L3.slice3, L3.shE, L3.Tg.slots, L3.wipeE, L3.restE, L3.asB, Law.sz0, Law.sz1, Law.sz2, L3.rAdd3, L3.rLen3, L3.rLt3, L3.rIdx3, Law.at30, Law.at31, Law.at32, Law.at20, Law.at21, L3.isNone, Law.eqD_int, Law.md0, Law.md1, Law.md2, Law.md3, Law.md4, Law.md5, Law.md6, Law.md7, Law.md8, Law.md9, Law.md10, Law.md11, Law.md12, Law.md13, Law.md14, Law.md15, Law.md16, Law.md17, Law.md18, Law.md19, Law.md20, Law.md21, Law.md22, Law.md23, Law.md24, Law.md25, h1, h2, h3, hY, stfFin, fldSet, fldD, sne1, sne2, sne3]
/-- System(coins) -/
theorem c_system (n : Nat) {L : List Nat} (v : VC L) : ∃ o, isSys L o ∧ callD tb WN (n + 5) 8 [(true, .obj 4 [] []), (false, .tup (intN L))] = .ok .non false [some (.brw, o), none] := by
  have hp := sN_perm L
  have hs := sN_sorted L
  cases hS : sN L with
  | nil => rw [hS] at hp; exact absurd (hp.symm.eq_nil) v.ne
  | cons m R =>
    rw [hS] at hp hs
    have hmem : ∀ c, c ∈ m :: R ↔ c ∈ L := fun c => hp.mem_iff
    have hm := v.rng m ((hmem m).mp List.mem_cons_self)
    have hm2 : m ≤ 2000 := by
      obtain ⟨c, hc, hle⟩ := v.mn
      rcases List.mem_cons.mp ((hmem c).mpr hc) with e | h
      · omega
      · have := (List.pairwise_cons.mp hs).1 c h
        omega
    have hlen : (m :: R).length = L.length := hp.length_eq
    obtain ⟨fl, T, e3⟩ := c_built n m R (by omega) (by omega) (by have := v.len; simp only [List.length_cons] at hlen; omega)
    obtain ⟨vs, hv, efl⟩ := T.full (by omega) (by rw [gcdL_perm hmem]; exact v.g)
    have efl : fl = intN vs := efl
    subst efl
    refine ⟨_, ⟨m, R, vs, rfl, hp, hs, hv, by omega, hm2, T⟩, ?_⟩
    have eY : (sortI (L.map fun (k : Nat) => (k : Int))).map D.int = intN (m :: R) := by rw [sN_int, hS]
    rw [u8]
    exact in_body (callD tb WN (n + 4)) (intN L) (intN (m :: R)) _ _ (L.map fun (k : Nat) => (k : Int)) eY (c_check (n + 1) v) (asI_intN L) e3
/-! ### pays_of -/
theorem po_neg (C : CR) (b : Bool) (o : D) (k : Int) (hk : k < 0) : runFn WN C (mdOf tb) fn_pays_of [(b, o), (false, .int k)] = .ok (.bl false) false [if b then some (.brw, o) else none, none] := by
  have hk : ¬ 0 ≤ k := by omega
  unfold fn_pays_of
  cases b <;> simp [L3.evSs, L3.evS.eq_1, L3.evS.eq_2, L3.evS.eq_3, L3.evS.eq_4, L3.evS.eq_5, L3.evS.eq_6, L3.evS.eq_9, L3.evS.eq_10, L3.evS.eq_11, L3.evS.eq_12, L3.evS.eq_13, L3.evS.eq_14, L3.evE.eq_1, L3.evE.eq_2, L3.evE.eq_3, L3.evE.eq_4, L3.evE.eq_5, L3.evE.eq_6, L3.evE.eq_7, L3.evE.eq_8, L3.evE.eq_9, L3.evE.eq_10, L3.evE.eq_11, L3.evE.eq_12, L3.evE.eq_13, L3.evE.eq_14, L3.evE.eq_15, L3.evE.eq_16, L3.evE.eq_18, L3.evE.eq_19, L3.evE.eq_20, L3.evE.eq_21, L3.evA, L3.evP, Law.evS_whlR, Law.evS_frR, Law.evE_lcR, Law.evS_frpR, Law.evE_lcpR, L3.walkP, L3.walkD, L3.unfzO, L3.unfz, Law.frR_nil, Law.frR_cons, Law.lcR_nil, Law.lcR_cons, L3.argOf, L3.Rs.bind, L3.opFin, L3.avDs, L3.avD, L3.vDs, L3.Op.keeps, L3.Op.run, L3.i1, L3.i2, L3.a1, L3.a2, L3.l1, L3.gd, L3.oB, L3.oI, L3.toB, L3.toI, L3.rdVar, L3.mvVar, L3.stVar, L3.stR, L3.stTg, L3.stVars, L3.stVarsO, L3.passA, L3.backA, L3.doCall, L3.cellOf, L3.start3, Law.outs1, Law.outs2, Law.outs3, Law.outs4, L3.resOf, L3.runFn, L3.keepB, L3.Ow.isB, L3.Ow.isOwn, L3.isTys, L3.isTy, L3.itFin, L3.ItK.run, L3.kRng1, L3.kRng2, L3.kSeq, L3.seqD, L3.seqD2, L3.kEnm, L3.enmD, Law.fit_of, Law.fit3, L3.noEr, L3.slFin, L3.slice3, L3.shE, L3.Tg.slots, L3.wipeE, L3.restE, L3.asB, Law.sz0, Law.sz1, Law.sz2, L3.rAdd3, L3.rLen3, L3.rLt3, L3.rIdx3, Law.at30, Law.at31, Law.at32, Law.at20, Law.at21, L3.isNone, Law.eqD_int, Law.md0, Law.md1, Law.md2, Law.md3, Law.md4, Law.md5, Law.md6, Law.md7, Law.md8, Law.md9, Law.md10, Law.md11, Law.md12, Law.md13, Law.md14, Law.md15, Law.md16, Law.md17, Law.md18, Law.md19, Law.md20, Law.md21, Law.md22, Law.md23, Law.md24, Law.md25, hk]
theorem po_pos (C : CR) (b : Bool) (Y Z X : List D) (k T r v : Int) (hk : 0 ≤ k) (hl : (X.length : Int) = T) (hT : 0 < T) (hr : k % T = r) (hx : atI X r = some (.int v)) :
    runFn WN C (mdOf tb) fn_pays_of [(b, .obj 4 ["coins", "needed_coins", "rests"] [.tup Y, .tup Z, .tup X]), (false, .int k)] = .ok (.bl (decide (v ≤ k))) false [if b then some (.brw, .obj 4 ["coins", "needed_coins", "rests"] [.tup Y, .tup Z, .tup X]) else none, none] := by
  have q2 : (Str.ofString "rests" == Str.ofString "coins") = false := by decide +kernel
  have q3 : (Str.ofString "rests" == Str.ofString "needed_coins") = false := by decide +kernel
  unfold fn_pays_of
  cases b <;> simp [L3.evSs, L3.evS.eq_1, L3.evS.eq_2, L3.evS.eq_3, L3.evS.eq_4, L3.evS.eq_5, L3.evS.eq_6, L3.evS.eq_9, L3.evS.eq_10, L3.evS.eq_11, L3.evS.eq_12, L3.evS.eq_13, L3.evS.eq_14, L3.evE.eq_1, L3.evE.eq_2, L3.evE.eq_3, L3.evE.eq_4, L3.evE.eq_5, L3.evE.eq_6, L3.evE.eq_7, L3.evE.eq_8, L3.evE.eq_9, L3.evE.eq_10, L3.evE.eq_11, L3.evE.eq_12, L3.evE.eq_13, L3.evE.eq_14, L3.evE.eq_15, L3.evE.eq_16, L3.evE.eq_18, L3.evE.eq_19, L3.evE.eq_20, L3.evE.eq_21, L3.evA, L3.evP, Law.evS_whlR, Law.evS_frR, Law.evE_lcR, Law.evS_frpR, Law.evE_lcpR, L3.walkP, L3.walkD, L3.unfzO, L3.unfz, Law.frR_nil, Law.frR_cons, Law.lcR_nil, Law.lcR_cons, L3.argOf, L3.Rs.bind, L3.opFin, L3.avDs, L3.avD, L3.vDs, L3.Op.keeps, L3.Op.run, L3.i1, L3.i2, L3.a1, L3.a2, L3.l1, L3.gd, L3.oB, L3.oI, L3.toB, L3.toI, L3.rdVar, L3.mvVar, L3.stVar, L3.stR, L3.stTg, L3.stVars, L3.stVarsO, L3.passA, L3.backA, L3.doCall, L3.cellOf, L3.start3, Law.outs1, Law.outs2, Law.outs3, Law.outs4, L3.resOf, L3.runFn, L3.keepB, L3.Ow.isB, L3.Ow.isOwn, L3.isTys, L3.isTy, L3.itFin, L3.ItK.run, L3.kRng1, L3.kRng2, L3.kSeq, L3.seqD, L3.seqD2, L3.kEnm, L3.enmD, Law.fit_of, Law.fit3, L3.noEr, L3.slFin, L3.slice3, L3.shE, L3.Tg.slots, L3.wipeE, L3.restE, L3.asB, Law.sz0, Law.sz1, Law.sz2, L3.rAdd3, L3.rLen3, L3.rLt3, L3.rIdx3, Law.at30, Law.at31, Law.at32, Law.at20, Law.at21, L3.isNone, Law.eqD_int, Law.md0, Law.md1, Law.md2, Law.md3, Law.md4, Law.md5, Law.md6, Law.md7, Law.md8, Law.md9, Law.md10, Law.md11, Law.md12, Law.md13, Law.md14, Law.md15, Law.md16, Law.md17, Law.md18, Law.md19, Law.md20, Law.md21, Law.md22, Law.md23, Law.md24, Law.md25, hk, hl, hT, hr, hx, fldD, q2, q3, List.lookup]
/-- whether a sum is payable -/
theorem c_pays_of (n : Nat) (b : Bool) {L : List Nat} {o : D} (s : isSys L o) (k : Int) : callD tb WN (n + 1) 11 [(b, o), (false, .int k)] = .ok (.bl (gi L k)) false [if b then some (.brw, o) else none, none] := by
  rw [u11]
  by_cases hk : 0 ≤ k
  · obtain ⟨m, R, vs, rfl, hp, _, hv, hm, _, T⟩ := s
    obtain ⟨j, rfl⟩ : ∃ j : Nat, k = j := ⟨k.toNat, by omega⟩
    have hlt : j % m < vs.length := by rw [hv]; exact Nat.mod_lt _ hm
    have e : (intN vs)[j % m]? = some (.int ((vs[j % m] : Nat) : Int)) := intN_get (List.getElem?_eq_getElem hlt)
    have h1 := po_pos (callD tb WN n) b (intN (m :: R)) (intN (ndF [] (m :: R))) (intN vs) j m ((j % m : Nat) : Int) _ hk (by rw [intN_len, hv]) (by omega) (Int.natCast_emod j m).symm (L3.atI_nat e)
    rw [h1]
    congr 2
    have h2 : gi L (j : Int) = gb L j := by unfold gi; rw [decide_eq_true hk, Int.toNat_natCast]; rfl
    rw [h2]
    have h3 : gb L j = true ↔ Has (intN vs) (j % m) j := by rw [gb_iff, ← isSys.gen hp]; exact T.pays List.mem_cons_self j
    cases hb : gb L j with
    | true =>
      obtain ⟨v, ev', hle⟩ := h3.mp hb
      rw [e] at ev'
      cases ev'
      exact decide_eq_true hle
    | false =>
      refine decide_eq_false fun hle => ?_
      rw [h3.mpr ⟨_, e, hle⟩] at hb
      cases hb
  · rw [po_neg (callD tb WN n) b o k (by omega)]
    have : gi L k = false := by unfold gi; rw [decide_eq_false hk]; rfl
    rw [this]
end Law


namespace Law
open PySem PySem.Spec PyProof.Rows L2 L3
/-! ### the hand -/
def kc : Dk := ⟨69621, 40692, 233, 2147483629, 7919, 48271, 2147483647, 1009, 69621, 2147483647, 2003, 40014, 2147483563⟩
theorem kc_ok : kc.Ok := ⟨by decide, by decide, by decide, by decide, by decide, by decide, by decide, by decide, by decide, by decide⟩
theorem c_drawF (n : Nat) : callD tb WN (n + 1) 14 = runFn WN (callD tb WN n) (mdOf tb) (fnDraw kc) := callD_succ rfl
theorem c_anyF (n : Nat) : callD tb WN (n + 1) 15 = runFn WN (callD tb WN n) (mdOf tb) (fnAny 14) := callD_succ rfl
def Hd (h : D) : Prop := ∃ cells a b c d, h = hand cells a b c d ∧ (∀ x ∈ cells, 0 ≤ x) ∧ 0 ≤ a ∧ 0 ≤ b
theorem divB {i j : Int} (k : Nat) (hk : k ≤ 9000) (h0 : 0 < j) (hj : j.natAbs < 2 ^ k) : divOk i j = true := by
  unfold divOk
  have : j.natAbs.log2 < k := (Nat.log2_lt (by omega)).mpr hj
  have h2 : 0 < j ∧ j.natAbs.log2 < 9000 := ⟨h0, by omega⟩
  simp [h2]
theorem any_of (n : Nat) {h : D} {xs : List D} (H : Hd h) (h0 : 0 < xs.length) (h1 : xs.length < 1073741824) : ∃ h' x, Hd h' ∧ x ∈ xs ∧ callD tb WN (n + 2) 15 [(true, h), (false, .lst xs)] = .ok x false [some (.brw, h'), none] := by
  obtain ⟨cells, a, b, c, d, rfl, hc, ha, hb⟩ := H
  obtain ⟨a', b', c', d', x, g1, g2, g3, g4⟩ := any_okX (w := WN) (md := mdOf tb) (C := callD tb WN (n + 1)) (c := c) (d := d) kc_ok (cellM kc_ok) (c_drawF n) rfl hc ha hb h0 h1
  exact ⟨_, x, ⟨cells, a', b', c', d', rfl, hc, g1, g2⟩, g3, by rw [c_anyF]; exact g4⟩
theorem draw_of (n : Nat) {h : D} (m : Int) (H : Hd h) (h0 : 0 < m) (h1 : m.natAbs < 2 ^ 1000) : ∃ h' r, Hd h' ∧ 0 ≤ r ∧ r < m ∧ callD tb WN (n + 1) 14 [(true, h), (false, .int m)] = .ok (.int r) false [some (.brw, h'), none] := by
  obtain ⟨cells, a, b, c, d, rfl, hc, ha, hb⟩ := H
  obtain ⟨a', b', c', d', r, g1, g2, g3, g4, g5⟩ := draw_okX (w := WN) (C := callD tb WN n) (md := mdOf tb) (c := c) (d := d) kc_ok (cellM kc_ok) hc ha hb h0 (fun b => divB 1000 (by decide) h0 h1)
  exact ⟨_, r, ⟨cells, a', b', c', d', rfl, hc, g1, g2⟩, g3, g4, by rw [c_drawF]; exact g5⟩
theorem p2k (m : Int) (h0 : 0 < m) (h1 : m < 1000000000000) : m.natAbs < 2 ^ 1000 := Nat.lt_of_lt_of_le (show m.natAbs < 1000000000000 by omega) (by decide)
theorem draw_sm (n : Nat) {h : D} (m : Int) (H : Hd h) (h0 : 0 < m) (h1 : m < 1000000000000) : ∃ h' r, Hd h' ∧ 0 ≤ r ∧ r < m ∧ callD tb WN (n + 1) 14 [(true, h), (false, .int m)] = .ok (.int r) false [some (.brw, h'), none] := draw_of n m H h0 (p2k m h0 h1)
/-- a comprehension that changes what is around -/
theorem lcR_st {C : CR} {md : Nat → List Bool} {vs : List Nat} {tg : Tg} {c e : E} (I : En → Prop) (P : D → Prop) : ∀ (items acc : List D) (en : En), I en →
    (∀ d ∈ items, ∀ en, I en → ∃ en1 en2 en3 y own, stTg tg d false en = some en1 ∧ toB (evE C md c en1) = .ok true en2 ∧ evE C md e en2 = .ok (y, own) en3 ∧ P y ∧ I (wipeE en3 vs)) → acc.length + items.length ≤ sizeLine →
    ∃ ys en', lcR C md vs tg c e items acc en = .ok (acc ++ ys) en' ∧ ys.length = items.length ∧ (∀ y ∈ ys, P y) ∧ I en'
  | [], acc, en, hi, _, _ => ⟨[], en, by rw [lcR_nil, List.append_nil], rfl, fun y hy => (by cases hy), hi⟩
  | d :: ds, acc, en, hi, h, hl => by
    obtain ⟨en1, en2, en3, y, own, e1, e2, e3, py, hi'⟩ := h d List.mem_cons_self en hi
    simp only [List.length_cons] at hl
    obtain ⟨ys, en', f, l, p, i⟩ := lcR_st I P ds (acc ++ [y]) _ hi' (fun d hd => h d (List.mem_cons_of_mem _ hd)) (by simp; omega)
    refine ⟨y :: ys, en', ?_, by simp [l], fun z hz => ?_, i⟩
    · rw [lcR_cons, e1]
      show (noEr (toB (evE C md c en1))).bind _ = _
      rw [e2]
      show (noEr (evE C md e en2)).bind _ = _
      rw [e3]
      show (if decide (acc.length < sizeLine) = true then _ else _) = _
      rw [if_pos (decide_eq_true (by omega)), f, List.append_assoc]
      rfl
    · rcases List.mem_cons.mp hz with rfl | hz
      · exact py
      · exact p z hz
end Law


namespace Law
open PySem PySem.Spec PyProof.Rows L2 L3
/-! ### a row of bits -/
noncomputable def bitsL (L : List Nat) (N : Nat) : List D := (List.range N).map fun k => D.bl (gb L k)
theorem bitsL_len (L : List Nat) (N : Nat) : (bitsL L N).length = N := by simp [bitsL]
theorem bitsL_get (L : List Nat) {N k : Nat} (h : k < N) : (bitsL L N)[k]? = some (.bl (gb L k)) := by unfold bitsL; rw [List.getElem?_map, List.getElem?_range h]; rfl
theorem bitsL_succ (L : List Nat) (N : Nat) : bitsL L (N + 1) = bitsL L N ++ [.bl (gb L N)] := by unfold bitsL; rw [List.range_succ, List.map_append]; rfl
noncomputable def bitG (L : List Nat) (K : Nat) : D → D := fun d => match d with
  | .int c => .bl (decide (c ≤ (K : Int)) && gb L (K - c.toNat))
  | d => d
theorem asB_bl : ∀ bs : List Bool, asB (bs.map D.bl) = some bs
  | [] => rfl
  | b :: bs => by
    show (match asB (bs.map D.bl) with | some r => some (b :: r) | none => none) = _
    rw [asB_bl bs]
theorem bits_any (L : List Nat) (K : Nat) (hK : 0 < K) : asB ((intN L).map (bitG L K)) = some (L.map fun c => decide (c ≤ K) && gb L (K - c)) ∧ (L.map fun c => decide (c ≤ K) && gb L (K - c)).any id = gb L K := by
  constructor
  · have : (intN L).map (bitG L K) = (L.map fun c => decide (c ≤ K) && gb L (K - c)).map D.bl := by
      unfold intN
      rw [List.map_map, List.map_map]
      refine List.map_congr_left fun c _ => ?_
      show D.bl (decide ((c : Int) ≤ (K : Int)) && gb L (K - (c : Int).toNat)) = D.bl _
      rw [Int.toNat_natCast]
      congr 2
      by_cases h : c ≤ K
      · rw [decide_eq_true h, decide_eq_true (by omega)]
      · rw [decide_eq_false h, decide_eq_false (by omega)]
    rw [this, asB_bl]
  · cases hb : gb L K with
    | true =>
      have := gen_iff.mp (gb_iff.mp hb)
      rcases this with z | ⟨c, hc, hle, hg⟩
      · omega
      · rw [List.any_map]
        exact List.any_eq_true.mpr ⟨c, hc, by simp [hle, gb_iff.mpr hg]⟩
    | false =>
      rw [List.any_map]
      refine List.any_eq_false.mpr fun c hc z => ?_
      simp only [Function.comp_apply, id, Bool.and_eq_true, decide_eq_true_eq] at z
      exact gb_no.mp hb (gen_iff.mpr (.inr ⟨c, hc, z.1, gb_iff.mp z.2⟩))
theorem bt_item (C : CR) (c0 c1 : Cell) (F : List D) (K c r : Int) (b : Bool) (hr : K - c = r) (h : c ≤ K → atI F r = some (.bl b)) :
    evE C (mdOf tb) L19_1 [c0, c1, some (.own, .lst F), some (.sh, .int K), some (.sh, .int c)] = .ok (.bl (decide (c ≤ K) && b), false) [c0, c1, some (.own, .lst F), some (.sh, .int K), some (.sh, .int c)] := by
  by_cases hc : c ≤ K
  · have h := h hc
    simp [L3.evSs, L3.evS.eq_1, L3.evS.eq_2, L3.evS.eq_3, L3.evS.eq_4, L3.evS.eq_5, L3.evS.eq_6, L3.evS.eq_9, L3.evS.eq_10, L3.evS.eq_11, L3.evS.eq_12, L3.evS.eq_13, L3.evS.eq_14, L3.evE.eq_1, L3.evE.eq_2, L3.evE.eq_3, L3.evE.eq_4, L3.evE.eq_5, L3.evE.eq_6, L3.evE.eq_7, L3.evE.eq_8, L3.evE.eq_9, L3.evE.eq_10, L3.evE.eq_11, L3.evE.eq_12, L3.evE.eq_13, L3.evE.eq_14, L3.evE.eq_15, L3.evE.eq_16, L3.evE.eq_18, L3.evE.eq_19, L3.evE.eq_20, L3.evE.eq_21, L3.evA, L3.evP, Law.evS_whlR, Law.evS_frR, Law.evE_lcR, Law.evS_frpR, Law.evE_lcpR, L3.walkP, L3.walkD, L3.unfzO, L3.unfz, Law.frR_nil, Law.frR_cons, Law.lcR_nil, Law.lcR_cons, L3.argOf, L3.Rs.bind, L3.opFin, L3.avDs, L3.avD, L3.vDs, L3.Op.keeps, L3.Op.run, L3.i1, L3.i2, L3.a1, L3.a2, L3.l1, L3.gd, L3.oB, L3.oI, L3.toB, L3.toI, L3.rdVar, L3.mvVar, L3.stVar, L3.stR, L3.stTg, L3.stVars, L3.stVarsO, L3.passA, L3.backA, L3.doCall, L3.cellOf, L3.start3, Law.outs1, Law.outs2, Law.outs3, Law.outs4, L3.resOf, L3.runFn, L3.keepB, L3.Ow.isB, L3.Ow.isOwn, L3.isTys, L3.isTy, L3.itFin, L3.ItK.run, L3.kRng1, L3.kRng2, L3.kSeq, L3.seqD, L3.seqD2, L3.kEnm, L3.enmD, Law.fit_of, Law.fit3, L3.noEr, L3.slFin, L3.slice3, L3.shE, L3.Tg.slots, L3.wipeE, L3.restE, L3.asB, Law.sz0, Law.sz1, Law.sz2, L3.rAdd3, L3.rLen3, L3.rLt3, L3.rIdx3, Law.at30, Law.at31, Law.at32, Law.at20, Law.at21, L3.isNone, Law.eqD_int, Law.md0, Law.md1, Law.md2, Law.md3, Law.md4, Law.md5, Law.md6, Law.md7, Law.md8, Law.md9, Law.md10, Law.md11, Law.md12, Law.md13, Law.md14, Law.md15, Law.md16, Law.md17, Law.md18, Law.md19, Law.md20, Law.md21, Law.md22, Law.md23, Law.md24, Law.md25, L19_1, hc, hr, h]
  · simp [L3.evSs, L3.evS.eq_1, L3.evS.eq_2, L3.evS.eq_3, L3.evS.eq_4, L3.evS.eq_5, L3.evS.eq_6, L3.evS.eq_9, L3.evS.eq_10, L3.evS.eq_11, L3.evS.eq_12, L3.evS.eq_13, L3.evS.eq_14, L3.evE.eq_1, L3.evE.eq_2, L3.evE.eq_3, L3.evE.eq_4, L3.evE.eq_5, L3.evE.eq_6, L3.evE.eq_7, L3.evE.eq_8, L3.evE.eq_9, L3.evE.eq_10, L3.evE.eq_11, L3.evE.eq_12, L3.evE.eq_13, L3.evE.eq_14, L3.evE.eq_15, L3.evE.eq_16, L3.evE.eq_18, L3.evE.eq_19, L3.evE.eq_20, L3.evE.eq_21, L3.evA, L3.evP, Law.evS_whlR, Law.evS_frR, Law.evE_lcR, Law.evS_frpR, Law.evE_lcpR, L3.walkP, L3.walkD, L3.unfzO, L3.unfz, Law.frR_nil, Law.frR_cons, Law.lcR_nil, Law.lcR_cons, L3.argOf, L3.Rs.bind, L3.opFin, L3.avDs, L3.avD, L3.vDs, L3.Op.keeps, L3.Op.run, L3.i1, L3.i2, L3.a1, L3.a2, L3.l1, L3.gd, L3.oB, L3.oI, L3.toB, L3.toI, L3.rdVar, L3.mvVar, L3.stVar, L3.stR, L3.stTg, L3.stVars, L3.stVarsO, L3.passA, L3.backA, L3.doCall, L3.cellOf, L3.start3, Law.outs1, Law.outs2, Law.outs3, Law.outs4, L3.resOf, L3.runFn, L3.keepB, L3.Ow.isB, L3.Ow.isOwn, L3.isTys, L3.isTy, L3.itFin, L3.ItK.run, L3.kRng1, L3.kRng2, L3.kSeq, L3.seqD, L3.seqD2, L3.kEnm, L3.enmD, Law.fit_of, Law.fit3, L3.noEr, L3.slFin, L3.slice3, L3.shE, L3.Tg.slots, L3.wipeE, L3.restE, L3.asB, Law.sz0, Law.sz1, Law.sz2, L3.rAdd3, L3.rLen3, L3.rLt3, L3.rIdx3, Law.at30, Law.at31, Law.at32, Law.at20, Law.at21, L3.isNone, Law.eqD_int, Law.md0, Law.md1, Law.md2, Law.md3, Law.md4, Law.md5, Law.md6, Law.md7, Law.md8, Law.md9, Law.md10, Law.md11, Law.md12, Law.md13, Law.md14, Law.md15, Law.md16, Law.md17, Law.md18, Law.md19, Law.md20, Law.md21, Law.md22, Law.md23, Law.md24, Law.md25, L19_1, hc]
theorem bits_lc (C : CR) (c0 c1 : Cell) (L : List Nat) (K : Nat) (hl : L.length ≤ 100000) (hp : ∀ c ∈ L, 0 < c) :
    lcR C (mdOf tb) [4] (.nm 4) L19_1c L19_1 (intN L) [] [c0, c1, some (.own, .lst (bitsL L K)), some (.sh, .int (K : Int)), none] = .ok ((intN L).map (bitG L K)) [c0, c1, some (.own, .lst (bitsL L K)), some (.sh, .int (K : Int)), none] := by
  have := lcR_map (C := C) (md := mdOf tb) (vs := [4]) (tg := .nm 4) (c := L19_1c) (e := L19_1) (g := bitG L K) (en0 := [c0, c1, some (.own, .lst (bitsL L K)), some (.sh, .int (K : Int)), none]) (intN L) [] (by
    intro d hd
    obtain ⟨c, hc, rfl⟩ := List.mem_map.mp hd
    refine ⟨[c0, c1, some (.own, .lst (bitsL L K)), some (.sh, .int (K : Int)), some (.sh, .int (c : Int))], rfl, toB_pe pe_cst, ⟨false, ?_⟩, rfl⟩
    have h := bt_item C c0 c1 (bitsL L K) K c ((K - c : Int)) (gb L (K - c)) rfl (fun hle => by
      have e : (K : Int) - (c : Int) = ((K - c : Nat) : Int) := by omega
      rw [e]
      exact L3.atI_nat (bitsL_get L (by have := hp c hc; omega)))
    exact h) (by rw [intN_len]; exact sz_of (by show 0 + L.length ≤ _; omega))
  rw [List.nil_append] at this
  exact this
theorem bits_turn (C : CR) (o : Bool) (k : D) (L : List Nat) (top : Int) (K : Nat) (c3 : Cell) (k3 : okc c3) (hk : k = .lst (intN L) ∨ (o = false ∧ k = .tup (intN L))) (hl : L.length ≤ 100000) (hp : ∀ c ∈ L, 0 < c) (hK : 0 < K) (hK2 : K ≤ 100000) :
    ((stR (stTg (.nm 3) (.int (K : Int)) false [some (if o then .brw else .sh, k), some (.sh, .int top), some (.own, .lst (bitsL L K)), c3, none])).bind fun _ en => evSs WN C (mdOf tb) F19_0 en) = .ok .nx [some (if o then .brw else .sh, k), some (.sh, .int top), some (.own, .lst (bitsL L (K + 1))), some (.sh, .int (K : Int)), none] := by
  obtain ⟨a1, a2⟩ := bits_any L K hK
  have hz : (bitsL L K).length < sizeLine := by rw [bitsL_len]; exact lt_szM (by omega)
  rw [bitsL_succ, ← a2]
  have f1 := bits_lc C frz (some (.sh, .int top)) L K hl hp
  have f2 := bits_lc C (some (.sh, k)) (some (.sh, .int top)) L K hl hp
  generalize bitsL L K = F at *
  generalize (L.map fun c => decide (c ≤ K) && gb L (K - c)) = bs at *
  generalize (intN L).map (bitG L K) = X at *
  generalize (K : Int) = KI at *
  cases o with
  | true =>
    rcases hk with rfl | ⟨z, _⟩
    · generalize intN L = Y at *
      simp only [frz] at f1
      rcases k3 with rfl | ⟨_, rfl⟩ <;> simp [L3.evSs, L3.evS.eq_1, L3.evS.eq_2, L3.evS.eq_3, L3.evS.eq_4, L3.evS.eq_5, L3.evS.eq_6, L3.evS.eq_9, L3.evS.eq_10, L3.evS.eq_11, L3.evS.eq_12, L3.evS.eq_13, L3.evS.eq_14, L3.evE.eq_1, L3.evE.eq_2, L3.evE.eq_3, L3.evE.eq_4, L3.evE.eq_5, L3.evE.eq_6, L3.evE.eq_7, L3.evE.eq_8, L3.evE.eq_9, L3.evE.eq_10, L3.evE.eq_11, L3.evE.eq_12, L3.evE.eq_13, L3.evE.eq_14, L3.evE.eq_15, L3.evE.eq_16, L3.evE.eq_18, L3.evE.eq_19, L3.evE.eq_20, L3.evE.eq_21, L3.evA, L3.evP, Law.evS_whlR, Law.evS_frR, Law.evE_lcR, Law.evS_frpR, Law.evE_lcpR, L3.walkP, L3.walkD, L3.unfzO, L3.unfz, L3.argOf, L3.Rs.bind, L3.opFin, L3.avDs, L3.avD, L3.vDs, L3.Op.keeps, L3.Op.run, L3.i1, L3.i2, L3.a1, L3.a2, L3.l1, L3.gd, L3.oB, L3.oI, L3.toB, L3.toI, L3.rdVar, L3.mvVar, L3.stVar, L3.stR, L3.stTg, L3.stVars, L3.stVarsO, L3.passA, L3.backA, L3.doCall, L3.cellOf, L3.start3, Law.outs1, Law.outs2, Law.outs3, Law.outs4, L3.resOf, L3.runFn, L3.keepB, L3.Ow.isB, L3.Ow.isOwn, L3.isTys, L3.isTy, L3.itFin, L3.ItK.run, L3.kRng1, L3.kRng2, L3.kSeq, L3.seqD, L3.seqD2, L3.kEnm, L3.enmD, Law.fit_of, Law.fit3, L3.noEr, L3.slFin, L3.slice3, L3.shE, L3.Tg.slots, L3.wipeE, L3.restE, L3.asB, Law.sz0, Law.sz1, Law.sz2, L3.rAdd3, L3.rLen3, L3.rLt3, L3.rIdx3, Law.at30, Law.at31, Law.at32, Law.at20, Law.at21, L3.isNone, Law.eqD_int, Law.md0, Law.md1, Law.md2, Law.md3, Law.md4, Law.md5, Law.md6, Law.md7, Law.md8, Law.md9, Law.md10, Law.md11, Law.md12, Law.md13, Law.md14, Law.md15, Law.md16, Law.md17, Law.md18, Law.md19, Law.md20, Law.md21, Law.md22, Law.md23, Law.md24, Law.md25, F19_0, f1, a1, mtFin, mtAt, mtPre, Mt.run, hz]
    · cases z
  | false =>
    rcases hk with rfl | ⟨_, rfl⟩
    · generalize intN L = Y at *
      rcases k3 with rfl | ⟨_, rfl⟩ <;> simp [L3.evSs, L3.evS.eq_1, L3.evS.eq_2, L3.evS.eq_3, L3.evS.eq_4, L3.evS.eq_5, L3.evS.eq_6, L3.evS.eq_9, L3.evS.eq_10, L3.evS.eq_11, L3.evS.eq_12, L3.evS.eq_13, L3.evS.eq_14, L3.evE.eq_1, L3.evE.eq_2, L3.evE.eq_3, L3.evE.eq_4, L3.evE.eq_5, L3.evE.eq_6, L3.evE.eq_7, L3.evE.eq_8, L3.evE.eq_9, L3.evE.eq_10, L3.evE.eq_11, L3.evE.eq_12, L3.evE.eq_13, L3.evE.eq_14, L3.evE.eq_15, L3.evE.eq_16, L3.evE.eq_18, L3.evE.eq_19, L3.evE.eq_20, L3.evE.eq_21, L3.evA, L3.evP, Law.evS_whlR, Law.evS_frR, Law.evE_lcR, Law.evS_frpR, Law.evE_lcpR, L3.walkP, L3.walkD, L3.unfzO, L3.unfz, L3.argOf, L3.Rs.bind, L3.opFin, L3.avDs, L3.avD, L3.vDs, L3.Op.keeps, L3.Op.run, L3.i1, L3.i2, L3.a1, L3.a2, L3.l1, L3.gd, L3.oB, L3.oI, L3.toB, L3.toI, L3.rdVar, L3.mvVar, L3.stVar, L3.stR, L3.stTg, L3.stVars, L3.stVarsO, L3.passA, L3.backA, L3.doCall, L3.cellOf, L3.start3, Law.outs1, Law.outs2, Law.outs3, Law.outs4, L3.resOf, L3.runFn, L3.keepB, L3.Ow.isB, L3.Ow.isOwn, L3.isTys, L3.isTy, L3.itFin, L3.ItK.run, L3.kRng1, L3.kRng2, L3.kSeq, L3.seqD, L3.seqD2, L3.kEnm, L3.enmD, Law.fit_of, Law.fit3, L3.noEr, L3.slFin, L3.slice3, L3.shE, L3.Tg.slots, L3.wipeE, L3.restE, L3.asB, Law.sz0, Law.sz1, Law.sz2, L3.rAdd3, L3.rLen3, L3.rLt3, L3.rIdx3, Law.at30, Law.at31, Law.at32, Law.at20, Law.at21, L3.isNone, Law.eqD_int, Law.md0, Law.md1, Law.md2, Law.md3, Law.md4, Law.md5, Law.md6, Law.md7, Law.md8, Law.md9, Law.md10, Law.md11, Law.md12, Law.md13, Law.md14, Law.md15, Law.md16, Law.md17, Law.md18, Law.md19, Law.md20, Law.md21, Law.md22, Law.md23, Law.md24, Law.md25, F19_0, f2, a1, mtFin, mtAt, mtPre, Mt.run, hz]
    · generalize intN L = Y at *
      rcases k3 with rfl | ⟨_, rfl⟩ <;> simp [L3.evSs, L3.evS.eq_1, L3.evS.eq_2, L3.evS.eq_3, L3.evS.eq_4, L3.evS.eq_5, L3.evS.eq_6, L3.evS.eq_9, L3.evS.eq_10, L3.evS.eq_11, L3.evS.eq_12, L3.evS.eq_13, L3.evS.eq_14, L3.evE.eq_1, L3.evE.eq_2, L3.evE.eq_3, L3.evE.eq_4, L3.evE.eq_5, L3.evE.eq_6, L3.evE.eq_7, L3.evE.eq_8, L3.evE.eq_9, L3.evE.eq_10, L3.evE.eq_11, L3.evE.eq_12, L3.evE.eq_13, L3.evE.eq_14, L3.evE.eq_15, L3.evE.eq_16, L3.evE.eq_18, L3.evE.eq_19, L3.evE.eq_20, L3.evE.eq_21, L3.evA, L3.evP, Law.evS_whlR, Law.evS_frR, Law.evE_lcR, Law.evS_frpR, Law.evE_lcpR, L3.walkP, L3.walkD, L3.unfzO, L3.unfz, L3.argOf, L3.Rs.bind, L3.opFin, L3.avDs, L3.avD, L3.vDs, L3.Op.keeps, L3.Op.run, L3.i1, L3.i2, L3.a1, L3.a2, L3.l1, L3.gd, L3.oB, L3.oI, L3.toB, L3.toI, L3.rdVar, L3.mvVar, L3.stVar, L3.stR, L3.stTg, L3.stVars, L3.stVarsO, L3.passA, L3.backA, L3.doCall, L3.cellOf, L3.start3, Law.outs1, Law.outs2, Law.outs3, Law.outs4, L3.resOf, L3.runFn, L3.keepB, L3.Ow.isB, L3.Ow.isOwn, L3.isTys, L3.isTy, L3.itFin, L3.ItK.run, L3.kRng1, L3.kRng2, L3.kSeq, L3.seqD, L3.seqD2, L3.kEnm, L3.enmD, Law.fit_of, Law.fit3, L3.noEr, L3.slFin, L3.slice3, L3.shE, L3.Tg.slots, L3.wipeE, L3.restE, L3.asB, Law.sz0, Law.sz1, Law.sz2, L3.rAdd3, L3.rLen3, L3.rLt3, L3.rIdx3, Law.at30, Law.at31, Law.at32, Law.at20, Law.at21, L3.isNone, Law.eqD_int, Law.md0, Law.md1, Law.md2, Law.md3, Law.md4, Law.md5, Law.md6, Law.md7, Law.md8, Law.md9, Law.md10, Law.md11, Law.md12, Law.md13, Law.md14, Law.md15, Law.md16, Law.md17, Law.md18, Law.md19, Law.md20, Law.md21, Law.md22, Law.md23, Law.md24, Law.md25, F19_0, f2, a1, mtFin, mtAt, mtPre, Mt.run, hz]
theorem bits_run (C : CR) (o : Bool) (k : D) (T : Int) (G F : List D) (c3 : Cell) (it2 : ∀ en : En, itFin .rng2 [.v (.int 1), .v (.int (T + 1))] en = .ok G en)
    (e1 : frR WN C (mdOf tb) (.nm 3) F19_0 G [some (if o then .brw else .sh, k), some (.sh, .int T), some (.own, .lst [.bl true]), none, none] = .ok .nx [some (if o then .brw else .sh, k), some (.sh, .int T), some (.own, .lst F), c3, none]) :
    runFn WN C (mdOf tb) fn__law_bits [(o, k), (false, .int T)] = .ok (.lst F) true [if o then some (.brw, k) else none, none] := by
  have s0 : ∀ c0 : Cell, Ps WN C (mdOf tb) [c0, some (.sh, .int T), none, none, none] (.asg (.nm 2) (.op .lst (.cons (.cst (.bl true)) .nil))) [c0, some (.sh, .int T), some (.own, .lst [.bl true]), none, none] := fun c0 => by
    unfold Ps
    simp [L3.evSs, L3.evS.eq_1, L3.evS.eq_2, L3.evS.eq_3, L3.evS.eq_4, L3.evS.eq_5, L3.evS.eq_6, L3.evS.eq_9, L3.evS.eq_10, L3.evS.eq_11, L3.evS.eq_12, L3.evS.eq_13, L3.evS.eq_14, L3.evE.eq_1, L3.evE.eq_2, L3.evE.eq_3, L3.evE.eq_4, L3.evE.eq_5, L3.evE.eq_6, L3.evE.eq_7, L3.evE.eq_8, L3.evE.eq_9, L3.evE.eq_10, L3.evE.eq_11, L3.evE.eq_12, L3.evE.eq_13, L3.evE.eq_14, L3.evE.eq_15, L3.evE.eq_16, L3.evE.eq_18, L3.evE.eq_19, L3.evE.eq_20, L3.evE.eq_21, L3.evA, L3.evP, Law.evS_whlR, Law.evS_frR, Law.evE_lcR, Law.evS_frpR, Law.evE_lcpR, L3.walkP, L3.walkD, L3.unfzO, L3.unfz, Law.frR_nil, Law.frR_cons, Law.lcR_nil, Law.lcR_cons, L3.argOf, L3.Rs.bind, L3.opFin, L3.avDs, L3.avD, L3.vDs, L3.Op.keeps, L3.Op.run, L3.i1, L3.i2, L3.a1, L3.a2, L3.l1, L3.gd, L3.oB, L3.oI, L3.toB, L3.toI, L3.rdVar, L3.mvVar, L3.stVar, L3.stR, L3.stTg, L3.stVars, L3.stVarsO, L3.passA, L3.backA, L3.doCall, L3.cellOf, L3.start3, Law.outs1, Law.outs2, Law.outs3, Law.outs4, L3.resOf, L3.runFn, L3.keepB, L3.Ow.isB, L3.Ow.isOwn, L3.isTys, L3.isTy, L3.itFin, L3.ItK.run, L3.kRng1, L3.kRng2, L3.kSeq, L3.seqD, L3.seqD2, L3.kEnm, L3.enmD, Law.fit_of, Law.fit3, L3.noEr, L3.slFin, L3.slice3, L3.shE, L3.Tg.slots, L3.wipeE, L3.restE, L3.asB, Law.sz0, Law.sz1, Law.sz2, L3.rAdd3, L3.rLen3, L3.rLt3, L3.rIdx3, Law.at30, Law.at31, Law.at32, Law.at20, Law.at21, L3.isNone, Law.eqD_int, Law.md0, Law.md1, Law.md2, Law.md3, Law.md4, Law.md5, Law.md6, Law.md7, Law.md8, Law.md9, Law.md10, Law.md11, Law.md12, Law.md13, Law.md14, Law.md15, Law.md16, Law.md17, Law.md18, Law.md19, Law.md20, Law.md21, Law.md22, Law.md23, Law.md24, Law.md25]
  have ea : ∀ c0 : Cell, evA C (mdOf tb) (.cons (.cst (.int 1)) (.cons (.op .add (.cons (.pk 1) (.cons (.cst (.int 1)) .nil))) .nil)) [c0, some (.sh, .int T), some (.own, .lst [.bl true]), none, none] = .ok [.v (.int 1), .v (.int (T + 1))] [c0, some (.sh, .int T), some (.own, .lst [.bl true]), none, none] := fun c0 => by simp [L3.evSs, L3.evS.eq_1, L3.evS.eq_2, L3.evS.eq_3, L3.evS.eq_4, L3.evS.eq_5, L3.evS.eq_6, L3.evS.eq_9, L3.evS.eq_10, L3.evS.eq_11, L3.evS.eq_12, L3.evS.eq_13, L3.evS.eq_14, L3.evE.eq_1, L3.evE.eq_2, L3.evE.eq_3, L3.evE.eq_4, L3.evE.eq_5, L3.evE.eq_6, L3.evE.eq_7, L3.evE.eq_8, L3.evE.eq_9, L3.evE.eq_10, L3.evE.eq_11, L3.evE.eq_12, L3.evE.eq_13, L3.evE.eq_14, L3.evE.eq_15, L3.evE.eq_16, L3.evE.eq_18, L3.evE.eq_19, L3.evE.eq_20, L3.evE.eq_21, L3.evA, L3.evP, Law.evS_whlR, Law.evS_frR, Law.evE_lcR, Law.evS_frpR, Law.evE_lcpR, L3.walkP, L3.walkD, L3.unfzO, L3.unfz, Law.frR_nil, Law.frR_cons, Law.lcR_nil, Law.lcR_cons, L3.argOf, L3.Rs.bind, L3.opFin, L3.avDs, L3.avD, L3.vDs, L3.Op.keeps, L3.Op.run, L3.i1, L3.i2, L3.a1, L3.a2, L3.l1, L3.gd, L3.oB, L3.oI, L3.toB, L3.toI, L3.rdVar, L3.mvVar, L3.stVar, L3.stR, L3.stTg, L3.stVars, L3.stVarsO, L3.passA, L3.backA, L3.doCall, L3.cellOf, L3.start3, Law.outs1, Law.outs2, Law.outs3, Law.outs4, L3.resOf, L3.runFn, L3.keepB, L3.Ow.isB, L3.Ow.isOwn, L3.isTys, L3.isTy, L3.itFin, L3.ItK.run, L3.kRng1, L3.kRng2, L3.kSeq, L3.seqD, L3.seqD2, L3.kEnm, L3.enmD, Law.fit_of, Law.fit3, L3.noEr, L3.slFin, L3.slice3, L3.shE, L3.Tg.slots, L3.wipeE, L3.restE, L3.asB, Law.sz0, Law.sz1, Law.sz2, L3.rAdd3, L3.rLen3, L3.rLt3, L3.rIdx3, Law.at30, Law.at31, Law.at32, Law.at20, Law.at21, L3.isNone, Law.eqD_int, Law.md0, Law.md1, Law.md2, Law.md3, Law.md4, Law.md5, Law.md6, Law.md7, Law.md8, Law.md9, Law.md10, Law.md11, Law.md12, Law.md13, Law.md14, Law.md15, Law.md16, Law.md17, Law.md18, Law.md19, Law.md20, Law.md21, Law.md22, Law.md23, Law.md24, Law.md25]
  have s1 : Ps WN C (mdOf tb) [some (if o then .brw else .sh, k), some (.sh, .int T), some (.own, .lst [.bl true]), none, none] (.fr (.nm 3) .rng2 (.cons (.cst (.int 1)) (.cons (.op .add (.cons (.pk 1) (.cons (.cst (.int 1)) .nil))) .nil)) F19_0) [some (if o then .brw else .sh, k), some (.sh, .int T), some (.own, .lst F), c3, none] := by
    unfold Ps
    rw [evS_frR, ea]
    simp only [Rs.bind, it2]
    exact e1
  have s2 : ∀ c0 : Cell, evE C (mdOf tb) (.mv 2) [c0, some (.sh, .int T), some (.own, .lst F), c3, none] = .ok (.lst F, true) [c0, some (.sh, .int T), none, c3, none] := fun c0 => by simp [L3.evSs, L3.evS.eq_1, L3.evS.eq_2, L3.evS.eq_3, L3.evS.eq_4, L3.evS.eq_5, L3.evS.eq_6, L3.evS.eq_9, L3.evS.eq_10, L3.evS.eq_11, L3.evS.eq_12, L3.evS.eq_13, L3.evS.eq_14, L3.evE.eq_1, L3.evE.eq_2, L3.evE.eq_3, L3.evE.eq_4, L3.evE.eq_5, L3.evE.eq_6, L3.evE.eq_7, L3.evE.eq_8, L3.evE.eq_9, L3.evE.eq_10, L3.evE.eq_11, L3.evE.eq_12, L3.evE.eq_13, L3.evE.eq_14, L3.evE.eq_15, L3.evE.eq_16, L3.evE.eq_18, L3.evE.eq_19, L3.evE.eq_20, L3.evE.eq_21, L3.evA, L3.evP, Law.evS_whlR, Law.evS_frR, Law.evE_lcR, Law.evS_frpR, Law.evE_lcpR, L3.walkP, L3.walkD, L3.unfzO, L3.unfz, Law.frR_nil, Law.frR_cons, Law.lcR_nil, Law.lcR_cons, L3.argOf, L3.Rs.bind, L3.opFin, L3.avDs, L3.avD, L3.vDs, L3.Op.keeps, L3.Op.run, L3.i1, L3.i2, L3.a1, L3.a2, L3.l1, L3.gd, L3.oB, L3.oI, L3.toB, L3.toI, L3.rdVar, L3.mvVar, L3.stVar, L3.stR, L3.stTg, L3.stVars, L3.stVarsO, L3.passA, L3.backA, L3.doCall, L3.cellOf, L3.start3, Law.outs1, Law.outs2, Law.outs3, Law.outs4, L3.resOf, L3.runFn, L3.keepB, L3.Ow.isB, L3.Ow.isOwn, L3.isTys, L3.isTy, L3.itFin, L3.ItK.run, L3.kRng1, L3.kRng2, L3.kSeq, L3.seqD, L3.seqD2, L3.kEnm, L3.enmD, Law.fit_of, Law.fit3, L3.noEr, L3.slFin, L3.slice3, L3.shE, L3.Tg.slots, L3.wipeE, L3.restE, L3.asB, Law.sz0, Law.sz1, Law.sz2, L3.rAdd3, L3.rLen3, L3.rLt3, L3.rIdx3, Law.at30, Law.at31, Law.at32, Law.at20, Law.at21, L3.isNone, Law.eqD_int, Law.md0, Law.md1, Law.md2, Law.md3, Law.md4, Law.md5, Law.md6, Law.md7, Law.md8, Law.md9, Law.md10, Law.md11, Law.md12, Law.md13, Law.md14, Law.md15, Law.md16, Law.md17, Law.md18, Law.md19, Law.md20, Law.md21, Law.md22, Law.md23, Law.md24, Law.md25]
  have e5 := (ss_step (s0 _)).trans ((ss_step s1).trans (ss_ret (ss := .nil) (s2 _)))
  have e6 : runFn WN C (mdOf tb) fn__law_bits [(o, k), (false, .int T)] = resOf 2 (evSs WN C (mdOf tb) fn__law_bits.body [some (if o then .brw else .sh, k), some (.sh, .int T), none, none, none]) := rfl
  rw [e6]
  refine (congrArg (resOf 2) e5).trans ?_
  cases o <;> rfl
theorem c_bits (n : Nat) (o : Bool) (k : D) (L : List Nat) (top : Nat) (hk : k = .lst (intN L) ∨ (o = false ∧ k = .tup (intN L))) (hl : L.length ≤ 100000) (hp : ∀ c ∈ L, 0 < c) (ht : top ≤ 90000) :
    callD tb WN (n + 1) 19 [(o, k), (false, .int (top : Int))] = .ok (.lst (bitsL L (top + 1))) true [if o then some (.brw, k) else none, none] := by
  obtain ⟨en', e1, c3, k3, e2⟩ := frR_rng (w := WN) (C := callD tb WN n) (md := mdOf tb) (tg := .nm 3) (b := F19_0)
    (fun K en => ∃ c3, okc c3 ∧ en = [some (if o then .brw else .sh, k), some (.sh, .int (top : Int)), some (.own, .lst (bitsL L K)), c3, none]) top 1 [some (if o then .brw else .sh, k), some (.sh, .int (top : Int)), some (.own, .lst [.bl true]), none, none] ⟨none, .inl rfl, by
      have : bitsL L 1 = [.bl true] := by unfold bitsL; show [D.bl (gb L 0)] = _; rw [gb_zero]
      rw [this]⟩ (by
    intro K h1 h2 en ⟨c3, k3, e⟩
    subst e
    exact ⟨_, bits_turn (callD tb WN n) o k L top K c3 k3 hk hl hp (by omega) (by omega), _, okc_sh, rfl⟩)
  subst e2
  have er : (List.range' 1 top).map (fun (k : Nat) => D.int (k : Int)) = rngI 1 top := by
    unfold rngI
    rw [List.range'_eq_map_range, List.map_map]
    refine List.map_congr_left fun k _ => ?_
    show D.int ((1 + k : Nat) : Int) = _
    push_cast
    rfl
  rw [er] at e1
  have e3 : 1 + top = top + 1 := by omega
  rw [e3] at e1
  have i2 : inB ((top : Int) + 1) = true := inB_of (by omega) (by omega)
  have hr0 : ((top : Int) + 1 - 1).toNat = top := by omega
  have hr : rngI 1 ((top : Int) + 1 - 1).toNat = rngI 1 top := by rw [hr0]
  rw [u19]
  exact bits_run (callD tb WN n) o k (top : Int) (rngI 1 top) (bitsL L (top + 1)) c3 (fun en => by rw [it_rng2 (by decide) i2, hr]) e1
end Law


namespace Law
open PySem PySem.Spec PyProof.Rows L2 L3
/-! ### needed coins -/
theorem nd_first (C : CR) (c0 : Cell) (c : Int) (c2 : Cell) (k2 : okc c2) :
    ((stR (stTg (.nm 2) (.int c) false [c0, some (.own, .lst []), c2])).bind fun _ en => evSs WN C (mdOf tb) F20_0 en) = .ok .nx [c0, some (.own, .lst [.int c]), some (.sh, .int c)] := by
  rcases k2 with rfl | ⟨_, rfl⟩ <;> simp [L3.evSs, L3.evS.eq_1, L3.evS.eq_2, L3.evS.eq_3, L3.evS.eq_4, L3.evS.eq_5, L3.evS.eq_6, L3.evS.eq_9, L3.evS.eq_10, L3.evS.eq_11, L3.evS.eq_12, L3.evS.eq_13, L3.evS.eq_14, L3.evE.eq_1, L3.evE.eq_2, L3.evE.eq_3, L3.evE.eq_4, L3.evE.eq_5, L3.evE.eq_6, L3.evE.eq_7, L3.evE.eq_8, L3.evE.eq_9, L3.evE.eq_10, L3.evE.eq_11, L3.evE.eq_12, L3.evE.eq_13, L3.evE.eq_14, L3.evE.eq_15, L3.evE.eq_16, L3.evE.eq_18, L3.evE.eq_19, L3.evE.eq_20, L3.evE.eq_21, L3.evA, L3.evP, Law.evS_whlR, Law.evS_frR, Law.evE_lcR, Law.evS_frpR, Law.evE_lcpR, L3.walkP, L3.walkD, L3.unfzO, L3.unfz, Law.frR_nil, Law.frR_cons, Law.lcR_nil, Law.lcR_cons, L3.argOf, L3.Rs.bind, L3.opFin, L3.avDs, L3.avD, L3.vDs, L3.Op.keeps, L3.Op.run, L3.i1, L3.i2, L3.a1, L3.a2, L3.l1, L3.gd, L3.oB, L3.oI, L3.toB, L3.toI, L3.rdVar, L3.mvVar, L3.stVar, L3.stR, L3.stTg, L3.stVars, L3.stVarsO, L3.passA, L3.backA, L3.doCall, L3.cellOf, L3.start3, Law.outs1, Law.outs2, Law.outs3, Law.outs4, L3.resOf, L3.runFn, L3.keepB, L3.Ow.isB, L3.Ow.isOwn, L3.isTys, L3.isTy, L3.itFin, L3.ItK.run, L3.kRng1, L3.kRng2, L3.kSeq, L3.seqD, L3.seqD2, L3.kEnm, L3.enmD, Law.fit_of, Law.fit3, L3.noEr, L3.slFin, L3.slice3, L3.shE, L3.Tg.slots, L3.wipeE, L3.restE, L3.asB, Law.sz0, Law.sz1, Law.sz2, L3.rAdd3, L3.rLen3, L3.rLt3, L3.rIdx3, Law.at30, Law.at31, Law.at32, Law.at20, Law.at21, L3.isNone, Law.eqD_int, Law.md0, Law.md1, Law.md2, Law.md3, Law.md4, Law.md5, Law.md6, Law.md7, Law.md8, Law.md9, Law.md10, Law.md11, Law.md12, Law.md13, Law.md14, Law.md15, Law.md16, Law.md17, Law.md18, Law.md19, Law.md20, Law.md21, Law.md22, Law.md23, Law.md24, Law.md25, F20_0, mtFin, mtAt, mtPre, Mt.run]
theorem nd_next (C : CR) (c0 : Cell) (c : Int) (x : D) (r B : List D) (b : Bool) (c2 : Cell) (k2 : okc c2) (hz : r.length + 1 < sizeLine) (hc : C 19 [(true, .lst (x :: r)), (false, .int c)] = .ok (.lst B) true [some (.brw, .lst (x :: r)), none]) (hb : atI B c = some (.bl b)) :
    ((stR (stTg (.nm 2) (.int c) false [c0, some (.own, .lst (x :: r)), c2])).bind fun _ en => evSs WN C (mdOf tb) F20_0 en) = .ok .nx [c0, some (.own, .lst ((x :: r) ++ (if b then [] else [.int c]))), some (.sh, .int c)] := by
  have hn : ¬ ((r.length : Int) + 1 = 0) := by omega
  cases b <;> rcases k2 with rfl | ⟨_, rfl⟩ <;> simp [L3.evSs, L3.evS.eq_1, L3.evS.eq_2, L3.evS.eq_3, L3.evS.eq_4, L3.evS.eq_5, L3.evS.eq_6, L3.evS.eq_9, L3.evS.eq_10, L3.evS.eq_11, L3.evS.eq_12, L3.evS.eq_13, L3.evS.eq_14, L3.evE.eq_1, L3.evE.eq_2, L3.evE.eq_3, L3.evE.eq_4, L3.evE.eq_5, L3.evE.eq_6, L3.evE.eq_7, L3.evE.eq_8, L3.evE.eq_9, L3.evE.eq_10, L3.evE.eq_11, L3.evE.eq_12, L3.evE.eq_13, L3.evE.eq_14, L3.evE.eq_15, L3.evE.eq_16, L3.evE.eq_18, L3.evE.eq_19, L3.evE.eq_20, L3.evE.eq_21, L3.evA, L3.evP, Law.evS_whlR, Law.evS_frR, Law.evE_lcR, Law.evS_frpR, Law.evE_lcpR, L3.walkP, L3.walkD, L3.unfzO, L3.unfz, Law.frR_nil, Law.frR_cons, Law.lcR_nil, Law.lcR_cons, L3.argOf, L3.Rs.bind, L3.opFin, L3.avDs, L3.avD, L3.vDs, L3.Op.keeps, L3.Op.run, L3.i1, L3.i2, L3.a1, L3.a2, L3.l1, L3.gd, L3.oB, L3.oI, L3.toB, L3.toI, L3.rdVar, L3.mvVar, L3.stVar, L3.stR, L3.stTg, L3.stVars, L3.stVarsO, L3.passA, L3.backA, L3.doCall, L3.cellOf, L3.start3, Law.outs1, Law.outs2, Law.outs3, Law.outs4, L3.resOf, L3.runFn, L3.keepB, L3.Ow.isB, L3.Ow.isOwn, L3.isTys, L3.isTy, L3.itFin, L3.ItK.run, L3.kRng1, L3.kRng2, L3.kSeq, L3.seqD, L3.seqD2, L3.kEnm, L3.enmD, Law.fit_of, Law.fit3, L3.noEr, L3.slFin, L3.slice3, L3.shE, L3.Tg.slots, L3.wipeE, L3.restE, L3.asB, Law.sz0, Law.sz1, Law.sz2, L3.rAdd3, L3.rLen3, L3.rLt3, L3.rIdx3, Law.at30, Law.at31, Law.at32, Law.at20, Law.at21, L3.isNone, Law.eqD_int, Law.md0, Law.md1, Law.md2, Law.md3, Law.md4, Law.md5, Law.md6, Law.md7, Law.md8, Law.md9, Law.md10, Law.md11, Law.md12, Law.md13, Law.md14, Law.md15, Law.md16, Law.md17, Law.md18, Law.md19, Law.md20, Law.md21, Law.md22, Law.md23, Law.md24, Law.md25, F20_0, hn, hc, hb, mtFin, mtAt, mtPre, Mt.run, hz]
theorem gen_ndF (P : List Nat) (n : Nat) : Gen (ndF [] P) n ↔ Gen P n := ⟨fun z => z.sub fun c hc => ndF_sub [] P c hc, fun z => z.mono (ndF_gen [] P (ndF [] P) (fun c hc => by cases hc) fun c hc => hc)⟩
theorem gb_ndF (P : List Nat) (n : Nat) : gb (ndF [] P) n = gb P n := by
  cases h : gb P n with
  | true => exact gb_iff.mpr ((gen_ndF P n).mpr (gb_iff.mp h))
  | false => exact gb_no.mpr fun z => gb_no.mp h ((gen_ndF P n).mp z)
theorem ndF_ne {p : Nat} {P : List Nat} (hp : 0 < p) : ndF [] (p :: P) ≠ [] := by
  show (if gb [] p then [] else [p]) ++ ndF ([] ++ [p]) P ≠ []
  rw [gb_nil hp]
  simp
theorem c_needed (n : Nat) (M : List Nat) (hp : ∀ c ∈ M, 0 < c ∧ c ≤ 50000) (hl : M.length ≤ 10000) : callD tb WN (n + 2) 20 [(true, .lst (intN M))] = .ok (.tup (intN (ndF [] (sN M)))) false [some (.brw, .lst (intN M))] := by
  have hperm := sN_perm M
  have hsl : (sN M).length ≤ 10000 := by rw [hperm.length_eq]; exact hl
  have hsp : ∀ c ∈ sN M, 0 < c ∧ c ≤ 50000 := fun c hc => hp c (hperm.mem_iff.mp hc)
  generalize hS : sN M = S at *
  let c0 : Cell := some (.brw, .lst (intN M))
  have main : ∀ (Q P : List Nat) (c2 : Cell), okc c2 → S = P ++ Q → ∃ c2', okc c2' ∧ frR WN (callD tb WN (n + 1)) (mdOf tb) (.nm 2) F20_0 (intN Q) [c0, some (.own, .lst (intN (ndF [] P))), c2] = .ok .nx [c0, some (.own, .lst (intN (ndF [] S))), c2'] := by
    intro Q
    induction Q with
    | nil =>
      intro P c2 k2 e
      rw [List.append_nil] at e
      subst e
      exact ⟨c2, k2, frR_nil⟩
    | cons c Q ih =>
      intro P c2 k2 e
      have hc : 0 < c ∧ c ≤ 50000 := hsp c (by rw [e]; simp)
      have hPm : ∀ x ∈ P, 0 < x := fun x hx => (hsp x (by rw [e]; simp [hx])).1
      obtain ⟨c2', k2', f⟩ := ih (P ++ [c]) (some (.sh, .int (c : Int))) okc_sh (by rw [e]; simp)
      refine ⟨c2', k2', ?_⟩
      show frR _ _ _ _ _ (.int (c : Int) :: intN Q) _ = _
      rw [frR_cons]
      have e1 : ((stR (stTg (.nm 2) (.int (c : Int)) false [c0, some (.own, .lst (intN (ndF [] P))), c2])).bind fun _ en => evSs WN (callD tb WN (n + 1)) (mdOf tb) F20_0 en) = .ok .nx [c0, some (.own, .lst (intN (ndF [] (P ++ [c])))), some (.sh, .int (c : Int))] := by
        have hsn := ndF_snoc [] P c
        rw [List.nil_append] at hsn
        rw [hsn]
        cases P with
        | nil =>
          have : gb [] c = false := gb_nil hc.1
          rw [this]
          exact nd_first _ c0 c c2 k2
        | cons p P' =>
          have hne := ndF_ne (P := P') (hPm p List.mem_cons_self)
          have hlen := ndF_len [] (p :: P')
          have hpl : (p :: P').length ≤ 10000 := by
            have := congrArg List.length e
            simp only [List.length_append, List.length_cons] at this
            simp only [List.length_cons]
            omega
          have hgb := gb_ndF (p :: P') c
          have hpos : ∀ x ∈ ndF [] (p :: P'), 0 < x := fun x hx => hPm x (ndF_sub [] _ x hx)
          generalize ndF [] (p :: P') = F at *
          cases F with
          | nil => exact absurd rfl hne
          | cons x r =>
            have eb := c_bits n true (.lst (intN (x :: r))) (x :: r) c (.inl rfl) (by omega) hpos (by omega)
            have hat : atI (bitsL (x :: r) (c + 1)) (c : Int) = some (.bl (gb (p :: P') c)) := by
              rw [← hgb]
              exact L3.atI_nat (bitsL_get _ (by omega))
            have := nd_next (callD tb WN (n + 1)) c0 c (.int (x : Int)) (intN r) _ (gb (p :: P') c) c2 k2 (by rw [intN_len]; simp only [List.length_cons] at hlen hpl; exact lt_szM (by omega)) eb hat
            rw [show intN (x :: r ++ if gb (p :: P') c = true then [] else [c]) = (.int (x : Int) :: intN r) ++ (if gb (p :: P') c = true then [] else [.int (c : Int)]) from ?_]
            · exact this
            · unfold intN
              rw [List.map_append]
              split <;> rfl
      rw [e1]
      exact f
  obtain ⟨c2, _, f⟩ := main S [] none (.inl rfl) rfl
  have hf : frR WN (callD tb WN (n + 1)) (mdOf tb) (.nm 2) F20_0 (intN S) [c0, some (.own, .lst []), none] = .ok .nx [c0, some (.own, .lst (intN (ndF [] S))), c2] := f
  have hsrt : asI (intN M) = some (M.map fun (k : Nat) => (k : Int)) := asI_intN M
  have hso : (sortI (M.map fun (k : Nat) => (k : Int))).map D.int = intN S := by rw [sN_int, hS]
  rw [u20]; unfold fn__law_needed
  simp only [c0] at hf
  generalize intN (ndF [] S) = F at *
  generalize intN M = X at *
  generalize intN S = Y at *
  simp [L3.evSs, L3.evS.eq_1, L3.evS.eq_2, L3.evS.eq_3, L3.evS.eq_4, L3.evS.eq_5, L3.evS.eq_6, L3.evS.eq_9, L3.evS.eq_10, L3.evS.eq_11, L3.evS.eq_12, L3.evS.eq_13, L3.evS.eq_14, L3.evE.eq_1, L3.evE.eq_2, L3.evE.eq_3, L3.evE.eq_4, L3.evE.eq_5, L3.evE.eq_6, L3.evE.eq_7, L3.evE.eq_8, L3.evE.eq_9, L3.evE.eq_10, L3.evE.eq_11, L3.evE.eq_12, L3.evE.eq_13, L3.evE.eq_14, L3.evE.eq_15, L3.evE.eq_16, L3.evE.eq_18, L3.evE.eq_19, L3.evE.eq_20, L3.evE.eq_21, L3.evA, L3.evP, Law.evS_whlR, Law.evS_frR, Law.evE_lcR, Law.evS_frpR, Law.evE_lcpR, L3.walkP, L3.walkD, L3.unfzO, L3.unfz, L3.argOf, L3.Rs.bind, L3.opFin, L3.avDs, L3.avD, L3.vDs, L3.Op.keeps, L3.Op.run, L3.i1, L3.i2, L3.a1, L3.a2, L3.l1, L3.gd, L3.oB, L3.oI, L3.toB, L3.toI, L3.rdVar, L3.mvVar, L3.stVar, L3.stR, L3.stTg, L3.stVars, L3.stVarsO, L3.passA, L3.backA, L3.doCall, L3.cellOf, L3.start3, Law.outs1, Law.outs2, Law.outs3, Law.outs4, L3.resOf, L3.runFn, L3.keepB, L3.Ow.isB, L3.Ow.isOwn, L3.isTys, L3.isTy, L3.itFin, L3.ItK.run, L3.kRng1, L3.kRng2, L3.kSeq, L3.seqD, L3.seqD2, L3.kEnm, L3.enmD, Law.fit_of, Law.fit3, L3.noEr, L3.slFin, L3.slice3, L3.shE, L3.Tg.slots, L3.wipeE, L3.restE, L3.asB, Law.sz0, Law.sz1, Law.sz2, L3.rAdd3, L3.rLen3, L3.rLt3, L3.rIdx3, Law.at30, Law.at31, Law.at32, Law.at20, Law.at21, L3.isNone, Law.eqD_int, Law.md0, Law.md1, Law.md2, Law.md3, Law.md4, Law.md5, Law.md6, Law.md7, Law.md8, Law.md9, Law.md10, Law.md11, Law.md12, Law.md13, Law.md14, Law.md15, Law.md16, Law.md17, Law.md18, Law.md19, Law.md20, Law.md21, Law.md22, Law.md23, Law.md24, Law.md25, hsrt, hso, hf]
end Law

namespace Law
open PySem PySem.Spec PyProof.Rows L2 L3
theorem cut63 (ns : List Int) (hn : ns.length ≤ 63) : cut (ns.map D.int) none (some 63) = ns.map D.int := by
  unfold cut
  rw [HT.sIx_none, show HT.sIx (ns.map D.int).length (ns.map D.int).length (some 63) = min 63 (ns.map D.int).length from HT.sIx_nat _ _ 63]
  simp only [List.drop_zero, Nat.sub_zero]
  rw [List.take_of_length_le]
  simp only [List.length_map]; omega
theorem hand_run (C : CR) (X Y : List D) (l : Int) (hX : cut X none (some 63) = X) (hl : (X.length : Int) = l) (f : lcR C (mdOf tb) [1] (.nm 1) L13_0c L13_0 X [] [some (.sh, .fls X), none] = .ok Y [some (.sh, .fls X), none]) :
    runFn WN C (mdOf tb) fn__law_hand [(false, .fls X)] = .ok (.lst [.lst Y, .int 0, .int 0, .int (271 + 3 * l), .int 0]) true [none] := by
  have m : mulOk 3 l = true := mul_l ⟨by decide, by decide⟩
  have ft : fit 5 = true := fit_of (by decide)
  unfold fn__law_hand
  simp [L3.evSs, L3.evS.eq_1, L3.evS.eq_2, L3.evS.eq_3, L3.evS.eq_4, L3.evS.eq_5, L3.evS.eq_6, L3.evS.eq_9, L3.evS.eq_10, L3.evS.eq_11, L3.evS.eq_12, L3.evS.eq_13, L3.evS.eq_14, L3.evE.eq_1, L3.evE.eq_2, L3.evE.eq_3, L3.evE.eq_4, L3.evE.eq_5, L3.evE.eq_6, L3.evE.eq_7, L3.evE.eq_8, L3.evE.eq_9, L3.evE.eq_10, L3.evE.eq_11, L3.evE.eq_12, L3.evE.eq_13, L3.evE.eq_14, L3.evE.eq_15, L3.evE.eq_16, L3.evE.eq_18, L3.evE.eq_19, L3.evE.eq_20, L3.evE.eq_21, L3.evA, L3.evP, Law.evS_whlR, Law.evS_frR, Law.evE_lcR, Law.evS_frpR, Law.evE_lcpR, L3.walkP, L3.walkD, L3.unfzO, L3.unfz, L3.argOf, L3.Rs.bind, L3.opFin, L3.avDs, L3.avD, L3.vDs, L3.Op.keeps, L3.Op.run, L3.i1, L3.i2, L3.a1, L3.a2, L3.l1, L3.gd, L3.oB, L3.oI, L3.toB, L3.toI, L3.rdVar, L3.mvVar, L3.stVar, L3.stR, L3.stTg, L3.stVars, L3.stVarsO, L3.passA, L3.backA, L3.doCall, L3.cellOf, L3.start3, Law.outs1, Law.outs2, Law.outs3, Law.outs4, L3.resOf, L3.runFn, L3.keepB, L3.Ow.isB, L3.Ow.isOwn, L3.isTys, L3.isTy, L3.itFin, L3.ItK.run, L3.kRng1, L3.kRng2, L3.kSeq, L3.seqD, L3.seqD2, L3.kEnm, L3.enmD, Law.fit_of, Law.fit3, L3.noEr, L3.slFin, L3.slice3, L3.shE, L3.Tg.slots, L3.wipeE, L3.restE, L3.asB, Law.sz0, Law.sz1, Law.sz2, L3.rAdd3, L3.rLen3, L3.rLt3, L3.rIdx3, Law.at30, Law.at31, Law.at32, Law.at20, Law.at21, L3.isNone, Law.eqD_int, Law.md0, Law.md1, Law.md2, Law.md3, Law.md4, Law.md5, Law.md6, Law.md7, Law.md8, Law.md9, Law.md10, Law.md11, Law.md12, Law.md13, Law.md14, Law.md15, Law.md16, Law.md17, Law.md18, Law.md19, Law.md20, Law.md21, Law.md22, Law.md23, Law.md24, Law.md25, hX, f, hl, m, ft]
theorem c_hand (n : Nat) (ns : List Int) (hn : ns.length ≤ 63) : ∃ h, Hd h ∧ callD tb WN (n + 1) 13 [(false, .fls (ns.map D.int))] = .ok h true [none] := by
  refine ⟨hand (ns.map absI) 0 0 (271 + 3 * ns.length) 0, ⟨_, _, _, _, _, rfl, fun x hx => by obtain ⟨i, _, rfl⟩ := List.mem_map.mp hx; exact absI_nn i, by decide, by decide⟩, ?_⟩
  rw [u13]
  refine hand_run (callD tb WN n) (ns.map D.int) ((ns.map absI).map D.int) ns.length (cut63 ns hn) (by rw [List.length_map]) ?_
  have := lcR_map (C := callD tb WN n) (md := mdOf tb) (vs := [1]) (tg := .nm 1) (c := L13_0c) (e := L13_0) (g := fun d => match d with | .int i => .int (absI i) | d => d) (en0 := [some (.sh, .fls (ns.map D.int)), none]) (ns.map D.int) [] (by
    intro d hd
    obtain ⟨i, _, rfl⟩ := List.mem_map.mp hd
    let en3 : En := [some (.sh, .fls (ns.map D.int)), some (.sh, .int i)]
    have q2 : en3[1]? = some (some (.sh, .int i)) := rfl
    refine ⟨en3, rfl, toB_pe pe_cst, ⟨false, ?_⟩, rfl⟩
    exact pe_op1 (o := .abs) (p := (.int (absI i), false)) (pe_op1 (o := .int) (p := (.int i, false)) (pa_pk q2) rfl : Pe _ _ en3 _ _ _).a rfl) (by rw [List.length_map]; exact sz_of (by show 0 + ns.length ≤ _; omega))
  rw [this, List.nil_append]
  simp [List.map_map, Function.comp_def]
/-! ### drawn coins -/
theorem lg_loop (C : CR) (z : Nat) : ∀ (f a b : Nat), euN f a b = true → whlR WN C (mdOf tb) W18_0c W18_0 (f + z) [some (.sh, .int a), some (.sh, .int b)] = .ok .nx [some (.sh, .int (Nat.gcd a b)), some (.sh, .int (0 : Nat))]
  | 0, _, _, h => by cases h
  | f + 1, a, b, h => by
    rw [show f + 1 + z = (f + z) + 1 by omega, whlR_succ]
    unfold euN at h
    by_cases hb : b = 0
    · subst hb
      simp [L3.evSs, L3.evS.eq_1, L3.evS.eq_2, L3.evS.eq_3, L3.evS.eq_4, L3.evS.eq_5, L3.evS.eq_6, L3.evS.eq_9, L3.evS.eq_10, L3.evS.eq_11, L3.evS.eq_12, L3.evS.eq_13, L3.evS.eq_14, L3.evE.eq_1, L3.evE.eq_2, L3.evE.eq_3, L3.evE.eq_4, L3.evE.eq_5, L3.evE.eq_6, L3.evE.eq_7, L3.evE.eq_8, L3.evE.eq_9, L3.evE.eq_10, L3.evE.eq_11, L3.evE.eq_12, L3.evE.eq_13, L3.evE.eq_14, L3.evE.eq_15, L3.evE.eq_16, L3.evE.eq_18, L3.evE.eq_19, L3.evE.eq_20, L3.evE.eq_21, L3.evA, L3.evP, Law.evS_whlR, Law.evS_frR, Law.evE_lcR, Law.evS_frpR, Law.evE_lcpR, L3.walkP, L3.walkD, L3.unfzO, L3.unfz, Law.frR_nil, Law.frR_cons, Law.lcR_nil, Law.lcR_cons, L3.argOf, L3.Rs.bind, L3.opFin, L3.avDs, L3.avD, L3.vDs, L3.Op.keeps, L3.Op.run, L3.i1, L3.i2, L3.a1, L3.a2, L3.l1, L3.gd, L3.oB, L3.oI, L3.toB, L3.toI, L3.rdVar, L3.mvVar, L3.stVar, L3.stR, L3.stTg, L3.stVars, L3.stVarsO, L3.passA, L3.backA, L3.doCall, L3.cellOf, L3.start3, Law.outs1, Law.outs2, Law.outs3, Law.outs4, L3.resOf, L3.runFn, L3.keepB, L3.Ow.isB, L3.Ow.isOwn, L3.isTys, L3.isTy, L3.itFin, L3.ItK.run, L3.kRng1, L3.kRng2, L3.kSeq, L3.seqD, L3.seqD2, L3.kEnm, L3.enmD, Law.fit_of, Law.fit3, L3.noEr, L3.slFin, L3.slice3, L3.shE, L3.Tg.slots, L3.wipeE, L3.restE, L3.asB, Law.sz0, Law.sz1, Law.sz2, L3.rAdd3, L3.rLen3, L3.rLt3, L3.rIdx3, Law.at30, Law.at31, Law.at32, Law.at20, Law.at21, L3.isNone, Law.eqD_int, Law.md0, Law.md1, Law.md2, Law.md3, Law.md4, Law.md5, Law.md6, Law.md7, Law.md8, Law.md9, Law.md10, Law.md11, Law.md12, Law.md13, Law.md14, Law.md15, Law.md16, Law.md17, Law.md18, Law.md19, Law.md20, Law.md21, Law.md22, Law.md23, Law.md24, Law.md25, W18_0c]
    · rw [if_neg hb] at h
      have hb2 : (0 : Int) < (b : Int) := by omega
      have ih := lg_loop C z f b (a % b) h
      have eg : Nat.gcd b (a % b) = Nat.gcd a b := by rw [Nat.gcd_comm b, ← Nat.gcd_rec, Nat.gcd_comm]
      rw [eg] at ih
      simp [L3.evSs, L3.evS.eq_1, L3.evS.eq_2, L3.evS.eq_3, L3.evS.eq_4, L3.evS.eq_5, L3.evS.eq_6, L3.evS.eq_9, L3.evS.eq_10, L3.evS.eq_11, L3.evS.eq_12, L3.evS.eq_13, L3.evS.eq_14, L3.evE.eq_1, L3.evE.eq_2, L3.evE.eq_3, L3.evE.eq_4, L3.evE.eq_5, L3.evE.eq_6, L3.evE.eq_7, L3.evE.eq_8, L3.evE.eq_9, L3.evE.eq_10, L3.evE.eq_11, L3.evE.eq_12, L3.evE.eq_13, L3.evE.eq_14, L3.evE.eq_15, L3.evE.eq_16, L3.evE.eq_18, L3.evE.eq_19, L3.evE.eq_20, L3.evE.eq_21, L3.evA, L3.evP, Law.evS_whlR, Law.evS_frR, Law.evE_lcR, Law.evS_frpR, Law.evE_lcpR, L3.walkP, L3.walkD, L3.unfzO, L3.unfz, Law.frR_nil, Law.frR_cons, Law.lcR_nil, Law.lcR_cons, L3.argOf, L3.Rs.bind, L3.opFin, L3.avDs, L3.avD, L3.vDs, L3.Op.keeps, L3.Op.run, L3.i1, L3.i2, L3.a1, L3.a2, L3.l1, L3.gd, L3.oB, L3.oI, L3.toB, L3.toI, L3.rdVar, L3.mvVar, L3.stVar, L3.stR, L3.stTg, L3.stVars, L3.stVarsO, L3.passA, L3.backA, L3.doCall, L3.cellOf, L3.start3, Law.outs1, Law.outs2, Law.outs3, Law.outs4, L3.resOf, L3.runFn, L3.keepB, L3.Ow.isB, L3.Ow.isOwn, L3.isTys, L3.isTy, L3.itFin, L3.ItK.run, L3.kRng1, L3.kRng2, L3.kSeq, L3.seqD, L3.seqD2, L3.kEnm, L3.enmD, Law.fit_of, Law.fit3, L3.noEr, L3.slFin, L3.slice3, L3.shE, L3.Tg.slots, L3.wipeE, L3.restE, L3.asB, Law.sz0, Law.sz1, Law.sz2, L3.rAdd3, L3.rLen3, L3.rLt3, L3.rIdx3, Law.at30, Law.at31, Law.at32, Law.at20, Law.at21, L3.isNone, Law.eqD_int, Law.md0, Law.md1, Law.md2, Law.md3, Law.md4, Law.md5, Law.md6, Law.md7, Law.md8, Law.md9, Law.md10, Law.md11, Law.md12, Law.md13, Law.md14, Law.md15, Law.md16, Law.md17, Law.md18, Law.md19, Law.md20, Law.md21, Law.md22, Law.md23, Law.md24, Law.md25, W18_0c, W18_0, hb2, Nat.pos_of_ne_zero hb]
      simpa using ih
theorem c_lgcd (n : Nat) (a b : Nat) (h : b < 2 ^ 1000) : callD tb WN (n + 1) 18 [(false, .int a), (false, .int b)] = .ok (.int (Nat.gcd a b)) false [none, none] := by
  rw [u18]; unfold fn__law_common
  have := lg_loop (callD tb WN n) (WN - 2001) 2001 a b (euN_ok 1000 2001 a b h (Nat.le_refl _))
  have e : 2001 + (WN - 2001) = WN := by decide
  rw [e] at this
  simp [L3.evSs, L3.evS.eq_1, L3.evS.eq_2, L3.evS.eq_3, L3.evS.eq_4, L3.evS.eq_5, L3.evS.eq_6, L3.evS.eq_9, L3.evS.eq_10, L3.evS.eq_11, L3.evS.eq_12, L3.evS.eq_13, L3.evS.eq_14, L3.evE.eq_1, L3.evE.eq_2, L3.evE.eq_3, L3.evE.eq_4, L3.evE.eq_5, L3.evE.eq_6, L3.evE.eq_7, L3.evE.eq_8, L3.evE.eq_9, L3.evE.eq_10, L3.evE.eq_11, L3.evE.eq_12, L3.evE.eq_13, L3.evE.eq_14, L3.evE.eq_15, L3.evE.eq_16, L3.evE.eq_18, L3.evE.eq_19, L3.evE.eq_20, L3.evE.eq_21, L3.evA, L3.evP, Law.evS_whlR, Law.evS_frR, Law.evE_lcR, Law.evS_frpR, Law.evE_lcpR, L3.walkP, L3.walkD, L3.unfzO, L3.unfz, Law.frR_nil, Law.frR_cons, Law.lcR_nil, Law.lcR_cons, L3.argOf, L3.Rs.bind, L3.opFin, L3.avDs, L3.avD, L3.vDs, L3.Op.keeps, L3.Op.run, L3.i1, L3.i2, L3.a1, L3.a2, L3.l1, L3.gd, L3.oB, L3.oI, L3.toB, L3.toI, L3.rdVar, L3.mvVar, L3.stVar, L3.stR, L3.stTg, L3.stVars, L3.stVarsO, L3.passA, L3.backA, L3.doCall, L3.cellOf, L3.start3, Law.outs1, Law.outs2, Law.outs3, Law.outs4, L3.resOf, L3.runFn, L3.keepB, L3.Ow.isB, L3.Ow.isOwn, L3.isTys, L3.isTy, L3.itFin, L3.ItK.run, L3.kRng1, L3.kRng2, L3.kSeq, L3.seqD, L3.seqD2, L3.kEnm, L3.enmD, Law.fit_of, Law.fit3, L3.noEr, L3.slFin, L3.slice3, L3.shE, L3.Tg.slots, L3.wipeE, L3.restE, L3.asB, Law.sz0, Law.sz1, Law.sz2, L3.rAdd3, L3.rLen3, L3.rLt3, L3.rIdx3, Law.at30, Law.at31, Law.at32, Law.at20, Law.at21, L3.isNone, Law.eqD_int, Law.md0, Law.md1, Law.md2, Law.md3, Law.md4, Law.md5, Law.md6, Law.md7, Law.md8, Law.md9, Law.md10, Law.md11, Law.md12, Law.md13, Law.md14, Law.md15, Law.md16, Law.md17, Law.md18, Law.md19, Law.md20, Law.md21, Law.md22, Law.md23, Law.md24, Law.md25, this]
theorem lg_fold (n : Nat) (c0 c1 c2 c3 c4 : Cell) : ∀ (L : List Nat) (g : Nat) (c : Cell), okc c → g < 2 ^ 1000 → (∀ x ∈ L, 0 < x ∧ x < 2 ^ 1000) → ∃ c', okc c' ∧ frR WN (callD tb WN (n + 1)) (mdOf tb) (.nm 6) F21_1 (intN L) [c0, c1, c2, c3, c4, some (.sh, .int g), c] = .ok .nx [c0, c1, c2, c3, c4, some (.sh, .int (L.foldl Nat.gcd g : Nat)), c']
  | [], g, c, h, _, _ => ⟨c, h, frR_nil⟩
  | x :: L, g, c, h, hg, hx => by
    have hx0 := hx x List.mem_cons_self
    have e := c_lgcd n x g hg
    rw [Nat.gcd_comm] at e
    obtain ⟨c', h', f⟩ := lg_fold n c0 c1 c2 c3 c4 L (Nat.gcd g x) (some (.sh, .int x)) okc_sh (Nat.lt_of_le_of_lt (Nat.gcd_le_right _ hx0.1) hx0.2) fun y hy => hx y (List.mem_cons_of_mem _ hy)
    refine ⟨c', h', ?_⟩
    show frR _ _ _ _ _ (.int x :: intN L) _ = _
    rw [frR_cons]
    have e2 : ((stR (stTg (.nm 6) (.int x) false [c0, c1, c2, c3, c4, some (.sh, .int g), c])).bind fun _ en => evSs WN (callD tb WN (n + 1)) (mdOf tb) F21_1 en) = .ok .nx [c0, c1, c2, c3, c4, some (.sh, .int (Nat.gcd g x : Nat)), some (.sh, .int x)] := by
      rcases h with rfl | ⟨_, rfl⟩ <;> simp [L3.evSs, L3.evS.eq_1, L3.evS.eq_2, L3.evS.eq_3, L3.evS.eq_4, L3.evS.eq_5, L3.evS.eq_6, L3.evS.eq_9, L3.evS.eq_10, L3.evS.eq_11, L3.evS.eq_12, L3.evS.eq_13, L3.evS.eq_14, L3.evE.eq_1, L3.evE.eq_2, L3.evE.eq_3, L3.evE.eq_4, L3.evE.eq_5, L3.evE.eq_6, L3.evE.eq_7, L3.evE.eq_8, L3.evE.eq_9, L3.evE.eq_10, L3.evE.eq_11, L3.evE.eq_12, L3.evE.eq_13, L3.evE.eq_14, L3.evE.eq_15, L3.evE.eq_16, L3.evE.eq_18, L3.evE.eq_19, L3.evE.eq_20, L3.evE.eq_21, L3.evA, L3.evP, Law.evS_whlR, Law.evS_frR, Law.evE_lcR, Law.evS_frpR, Law.evE_lcpR, L3.walkP, L3.walkD, L3.unfzO, L3.unfz, Law.frR_nil, Law.frR_cons, Law.lcR_nil, Law.lcR_cons, L3.argOf, L3.Rs.bind, L3.opFin, L3.avDs, L3.avD, L3.vDs, L3.Op.keeps, L3.Op.run, L3.i1, L3.i2, L3.a1, L3.a2, L3.l1, L3.gd, L3.oB, L3.oI, L3.toB, L3.toI, L3.rdVar, L3.mvVar, L3.stVar, L3.stR, L3.stTg, L3.stVars, L3.stVarsO, L3.passA, L3.backA, L3.doCall, L3.cellOf, L3.start3, Law.outs1, Law.outs2, Law.outs3, Law.outs4, L3.resOf, L3.runFn, L3.keepB, L3.Ow.isB, L3.Ow.isOwn, L3.isTys, L3.isTy, L3.itFin, L3.ItK.run, L3.kRng1, L3.kRng2, L3.kSeq, L3.seqD, L3.seqD2, L3.kEnm, L3.enmD, Law.fit_of, Law.fit3, L3.noEr, L3.slFin, L3.slice3, L3.shE, L3.Tg.slots, L3.wipeE, L3.restE, L3.asB, Law.sz0, Law.sz1, Law.sz2, L3.rAdd3, L3.rLen3, L3.rLt3, L3.rIdx3, Law.at30, Law.at31, Law.at32, Law.at20, Law.at21, L3.isNone, Law.eqD_int, Law.md0, Law.md1, Law.md2, Law.md3, Law.md4, Law.md5, Law.md6, Law.md7, Law.md8, Law.md9, Law.md10, Law.md11, Law.md12, Law.md13, Law.md14, Law.md15, Law.md16, Law.md17, Law.md18, Law.md19, Law.md20, Law.md21, Law.md22, Law.md23, Law.md24, Law.md25, F21_1, e]
    rw [e2]
    exact f
theorem nats_of : ∀ {ys : List D} {Q : Nat → Prop}, (∀ y ∈ ys, ∃ c : Nat, y = .int (c : Int) ∧ Q c) → ∃ M, ys = intN M ∧ ∀ c ∈ M, Q c
  | [], _, _ => ⟨[], rfl, fun c hc => by cases hc⟩
  | y :: ys, Q, h => by
    obtain ⟨c, rfl, q⟩ := h y List.mem_cons_self
    obtain ⟨M, rfl, hM⟩ := nats_of (ys := ys) (Q := Q) fun y hy => h y (List.mem_cons_of_mem _ hy)
    exact ⟨c :: M, rfl, fun d hd => by
      rcases List.mem_cons.mp hd with rfl | hd
      · exact q
      · exact hM d hd⟩
theorem ndF_nodup : ∀ (S L : List Nat), (ndF S L).Nodup ∧ ∀ c ∈ ndF S L, ¬ Gen S c
  | _, [] => ⟨List.nodup_nil, fun c hc => by cases hc⟩
  | S, a :: r => by
    obtain ⟨h1, h2⟩ := ndF_nodup (S ++ [a]) r
    have up : ∀ c ∈ ndF (S ++ [a]) r, ¬ Gen S c := fun c hc z => h2 c hc (z.sub fun x hx => List.mem_append_left _ hx)
    show ((if gb S a then [] else [a]) ++ ndF (S ++ [a]) r).Nodup ∧ ∀ c ∈ (if gb S a then [] else [a]) ++ ndF (S ++ [a]) r, ¬ Gen S c
    cases hb : gb S a with
    | true => exact ⟨h1, up⟩
    | false =>
      refine ⟨List.nodup_cons.mpr ⟨fun z => h2 a z (.one (List.mem_append_right _ (List.mem_singleton.mpr rfl))), h1⟩, fun c hc => ?_⟩
      rcases List.mem_cons.mp hc with rfl | hc
      · exact gb_no.mp hb
      · exact up c hc
theorem gcdL_gen {S T : List Nat} (h : ∀ n, Gen S n ↔ Gen T n) : gcdL S = gcdL T := by
  have dv : ∀ {S : List Nat} {d n : Nat}, (∀ c ∈ S, d ∣ c) → Gen S n → d ∣ n := fun {S d n} hd g => by
    induction g with
    | zero => exact Nat.dvd_zero d
    | add hc _ ih => exact Nat.dvd_add ih (hd _ hc)
  exact Nat.dvd_antisymm (gcdL_dvd.mpr fun c hc => dv (gcdL_dvd.mp (Nat.dvd_refl _)) ((h c).mpr (.one hc))) (gcdL_dvd.mpr fun c hc => dv (gcdL_dvd.mp (Nat.dvd_refl _)) ((h c).mp (.one hc)))
/-- right coins out of any without a common divisor -/
theorem vc_of {M : List Nat} (hr : ∀ c ∈ M, 1 ≤ c ∧ c ≤ 2000) (hl : M.length ≤ 700) (hg : gcdL M = 1) : VC (ndF [] (sN M)) := by
  have hp := sN_perm M
  have hsub : ∀ c ∈ ndF [] (sN M), c ∈ M := fun c hc => hp.mem_iff.mp (ndF_sub [] _ c hc)
  have hgen : ∀ n, Gen (ndF [] (sN M)) n ↔ Gen M n := fun n => (gen_ndF (sN M) n).trans ⟨fun z => z.sub fun c hc => hp.mem_iff.mp hc, fun z => z.sub fun c hc => hp.mem_iff.mpr hc⟩
  have hne : ndF [] (sN M) ≠ [] := by
    cases hS : sN M with
    | nil =>
      rw [hS] at hp
      have : M = [] := hp.symm.eq_nil
      subst this
      cases hg
    | cons p P => exact ndF_ne (by have := hr p (hp.mem_iff.mp (by rw [hS]; exact List.mem_cons_self)); omega)
  refine ⟨hne, fun c hc => by have := hr c (hsub c hc); omega, (ndF_nodup [] _).1, ?_, ?_, by rw [gcdL_gen hgen]; exact hg⟩
  · have := ndF_len [] (sN M)
    rw [hp.length_eq] at this
    omega
  · obtain ⟨c, r, e⟩ := List.exists_cons_of_ne_nil hne
    have hc : c ∈ ndF [] (sN M) := by rw [e]; exact List.mem_cons_self
    exact ⟨c, hc, (hr c (hsub c hc)).2⟩
end Law

namespace Law
open PySem PySem.Spec PyProof.Rows L2 L3
def dre (h : D) (c4 c5 c6 : Cell) : En := [some (.brw, h), some (.sh, .int 2), some (.sh, .int 12), some (.sh, .int 4), c4, c5, c6]
@[reducible] def A21 : Es := (.cons (.op .add (.cons (.cst (.int 2)) (.cons (.call 14 (.cons (.pk 0) (.cons (.op .sub (.cons (.pk 3) (.cons (.cst (.int 1)) .nil))) .nil))) .nil))) .nil)
theorem dr_cnt (C : CR) (h h1 : D) (r : Int) (e : C 14 [(true, h), (false, .int 3)] = .ok (.int r) false [some (.brw, h1), none]) : evA C (mdOf tb) A21 (dre h none none none) = .ok [.v (.int (2 + r))] (dre h1 none none none) := by
  simp [L3.evSs, L3.evS.eq_1, L3.evS.eq_2, L3.evS.eq_3, L3.evS.eq_4, L3.evS.eq_5, L3.evS.eq_6, L3.evS.eq_9, L3.evS.eq_10, L3.evS.eq_11, L3.evS.eq_12, L3.evS.eq_13, L3.evS.eq_14, L3.evE.eq_1, L3.evE.eq_2, L3.evE.eq_3, L3.evE.eq_4, L3.evE.eq_5, L3.evE.eq_6, L3.evE.eq_7, L3.evE.eq_8, L3.evE.eq_9, L3.evE.eq_10, L3.evE.eq_11, L3.evE.eq_12, L3.evE.eq_13, L3.evE.eq_14, L3.evE.eq_15, L3.evE.eq_16, L3.evE.eq_18, L3.evE.eq_19, L3.evE.eq_20, L3.evE.eq_21, L3.evA, L3.evP, Law.evS_whlR, Law.evS_frR, Law.evE_lcR, Law.evS_frpR, Law.evE_lcpR, L3.walkP, L3.walkD, L3.unfzO, L3.unfz, Law.frR_nil, Law.frR_cons, Law.lcR_nil, Law.lcR_cons, L3.argOf, L3.Rs.bind, L3.opFin, L3.avDs, L3.avD, L3.vDs, L3.Op.keeps, L3.Op.run, L3.i1, L3.i2, L3.a1, L3.a2, L3.l1, L3.gd, L3.oB, L3.oI, L3.toB, L3.toI, L3.rdVar, L3.mvVar, L3.stVar, L3.stR, L3.stTg, L3.stVars, L3.stVarsO, L3.passA, L3.backA, L3.doCall, L3.cellOf, L3.start3, Law.outs1, Law.outs2, Law.outs3, Law.outs4, L3.resOf, L3.runFn, L3.keepB, L3.Ow.isB, L3.Ow.isOwn, L3.isTys, L3.isTy, L3.itFin, L3.ItK.run, L3.kRng1, L3.kRng2, L3.kSeq, L3.seqD, L3.seqD2, L3.kEnm, L3.enmD, Law.fit_of, Law.fit3, L3.noEr, L3.slFin, L3.slice3, L3.shE, L3.Tg.slots, L3.wipeE, L3.restE, L3.asB, Law.sz0, Law.sz1, Law.sz2, L3.rAdd3, L3.rLen3, L3.rLt3, L3.rIdx3, Law.at30, Law.at31, Law.at32, Law.at20, Law.at21, L3.isNone, Law.eqD_int, Law.md0, Law.md1, Law.md2, Law.md3, Law.md4, Law.md5, Law.md6, Law.md7, Law.md8, Law.md9, Law.md10, Law.md11, Law.md12, Law.md13, Law.md14, Law.md15, Law.md16, Law.md17, Law.md18, Law.md19, Law.md20, Law.md21, Law.md22, Law.md23, Law.md24, Law.md25, dre, e]
theorem dr_elt (C : CR) (h h1 : D) (r : Int) (d : D) (e : C 14 [(true, h), (false, .int 11)] = .ok (.int r) false [some (.brw, h1), none]) : evE C (mdOf tb) L21_0 (dre h none none (some (.sh, d))) = .ok (.int (2 + r), false) (dre h1 none none (some (.sh, d))) := by
  simp [L3.evSs, L3.evS.eq_1, L3.evS.eq_2, L3.evS.eq_3, L3.evS.eq_4, L3.evS.eq_5, L3.evS.eq_6, L3.evS.eq_9, L3.evS.eq_10, L3.evS.eq_11, L3.evS.eq_12, L3.evS.eq_13, L3.evS.eq_14, L3.evE.eq_1, L3.evE.eq_2, L3.evE.eq_3, L3.evE.eq_4, L3.evE.eq_5, L3.evE.eq_6, L3.evE.eq_7, L3.evE.eq_8, L3.evE.eq_9, L3.evE.eq_10, L3.evE.eq_11, L3.evE.eq_12, L3.evE.eq_13, L3.evE.eq_14, L3.evE.eq_15, L3.evE.eq_16, L3.evE.eq_18, L3.evE.eq_19, L3.evE.eq_20, L3.evE.eq_21, L3.evA, L3.evP, Law.evS_whlR, Law.evS_frR, Law.evE_lcR, Law.evS_frpR, Law.evE_lcpR, L3.walkP, L3.walkD, L3.unfzO, L3.unfz, Law.frR_nil, Law.frR_cons, Law.lcR_nil, Law.lcR_cons, L3.argOf, L3.Rs.bind, L3.opFin, L3.avDs, L3.avD, L3.vDs, L3.Op.keeps, L3.Op.run, L3.i1, L3.i2, L3.a1, L3.a2, L3.l1, L3.gd, L3.oB, L3.oI, L3.toB, L3.toI, L3.rdVar, L3.mvVar, L3.stVar, L3.stR, L3.stTg, L3.stVars, L3.stVarsO, L3.passA, L3.backA, L3.doCall, L3.cellOf, L3.start3, Law.outs1, Law.outs2, Law.outs3, Law.outs4, L3.resOf, L3.runFn, L3.keepB, L3.Ow.isB, L3.Ow.isOwn, L3.isTys, L3.isTy, L3.itFin, L3.ItK.run, L3.kRng1, L3.kRng2, L3.kSeq, L3.seqD, L3.seqD2, L3.kEnm, L3.enmD, Law.fit_of, Law.fit3, L3.noEr, L3.slFin, L3.slice3, L3.shE, L3.Tg.slots, L3.wipeE, L3.restE, L3.asB, Law.sz0, Law.sz1, Law.sz2, L3.rAdd3, L3.rLen3, L3.rLt3, L3.rIdx3, Law.at30, Law.at31, Law.at32, Law.at20, Law.at21, L3.isNone, Law.eqD_int, Law.md0, Law.md1, Law.md2, Law.md3, Law.md4, Law.md5, Law.md6, Law.md7, Law.md8, Law.md9, Law.md10, Law.md11, Law.md12, Law.md13, Law.md14, Law.md15, Law.md16, Law.md17, Law.md18, Law.md19, Law.md20, Law.md21, Law.md22, Law.md23, Law.md24, Law.md25, L21_0, dre, e]
theorem dr_found (n : Nat) {h : D} (H : Hd h) : ∃ h' M, Hd h' ∧ M ≠ [] ∧ M.length ≤ 4 ∧ (∀ c ∈ M, 2 ≤ c ∧ c ≤ 12) ∧ Ps WN (callD tb WN (n + 1)) (mdOf tb) (dre h none none none) (.asg (.nm 4) (.lc [6] (.nm 6) .rng1 A21 L21_0c L21_0)) (dre h' (some (.own, .lst (intN M))) none none) := by
  obtain ⟨h1, r, H1, r0, r1, e1⟩ := draw_sm n 3 H (by decide) (by decide)
  have ea := dr_cnt (callD tb WN (n + 1)) h h1 r e1
  obtain ⟨ys, en', f, hl, hp, h2, H2, e2⟩ := lcR_st (C := callD tb WN (n + 1)) (md := mdOf tb) (vs := [6]) (tg := .nm 6) (c := L21_0c) (e := L21_0) (fun en => ∃ h, Hd h ∧ en = dre h none none none) (fun y => ∃ c : Nat, y = .int (c : Int) ∧ 2 ≤ c ∧ c ≤ 12) (rngI 0 (2 + r).toNat) [] (dre h1 none none none) ⟨h1, H1, rfl⟩ (by
    intro d hd en ⟨h, H, e⟩
    subst e
    obtain ⟨h', q, H', q0, q1, e⟩ := draw_sm n 11 H (by decide) (by decide)
    have ee := dr_elt (callD tb WN (n + 1)) h h' q d e
    exact ⟨dre h none none (some (.sh, d)), _, _, _, _, rfl, toB_pe pe_cst, ee, ⟨(2 + q).toNat, by congr 1; omega, by omega, by omega⟩, h', H', rfl⟩) (by rw [rngI_len]; exact sz_of (by show 0 + (2 + r).toNat ≤ _; omega))
  subst e2
  obtain ⟨M, rfl, hM⟩ := nats_of (Q := fun c => 2 ≤ c ∧ c ≤ 12) hp
  rw [rngI_len, intN_len] at hl
  refine ⟨h2, M, H2, fun z => by rw [z] at hl; simp at hl; omega, by omega, hM, ?_⟩
  have ei : itFin .rng1 [.v (.int (2 + r))] (dre h1 none none none) = .ok (rngI 0 (2 + r).toNat) (dre h1 none none none) := it_rng1 (inB_of (by omega) (by omega))
  rw [List.nil_append] at f
  exact ps_asgU (lc_val ea ei rfl f) rfl
theorem dr_gcd (n : Nat) (h : D) (M : List Nat) (hM : ∀ c ∈ M, 2 ≤ c ∧ c ≤ 12) : ∃ c6, okc c6 ∧ Ps WN (callD tb WN (n + 1)) (mdOf tb) (dre h (some (.own, .lst (intN M))) (some (.sh, .int 0)) none) (.frp (.nm 6) 4 F21_1) (dre h (some (.own, .lst (intN M))) (some (.sh, .int (gcdL M : Nat))) c6) := by
  have hb : (12 : Nat) < 2 ^ 1000 := by decide
  obtain ⟨c', k', f⟩ := lg_fold n (some (.brw, h)) (some (.sh, .int 2)) (some (.sh, .int 12)) (some (.sh, .int 4)) frz M 0 none (.inl rfl) (by decide) (fun x hx => ⟨by have := hM x hx; omega, Nat.lt_of_le_of_lt (hM x hx).2 hb⟩)
  rw [foldl_gcd0] at f
  refine ⟨c', k', ?_⟩
  unfold Ps
  rw [evS_frpR]
  have hw : walkP 4 (dre h (some (.own, .lst (intN M))) (some (.sh, .int 0)) none) = some (intN M, some (.own, .lst (intN M)), dre h frz (some (.sh, .int 0)) none) := rfl
  rw [hw]
  show unfz 4 _ (frR WN (callD tb WN (n + 1)) (mdOf tb) (.nm 6) F21_1 (intN M) (dre h frz (some (.sh, .int 0)) none)) = _
  have f : frR WN (callD tb WN (n + 1)) (mdOf tb) (.nm 6) F21_1 (intN M) (dre h frz (some (.sh, .int 0)) none) = .ok .nx (dre h frz (some (.sh, .int (gcdL M : Nat))) c') := f
  rw [f]
  rfl
theorem dr_no (C : CR) (h : D) (X : List D) (g : Int) (c6 : Cell) (hg : g ≤ 1) : Ps WN C (mdOf tb) (dre h (some (.own, .lst X)) (some (.sh, .int g)) c6) (.ife (.op .gt (.cons (.pk 5) (.cons (.cst (.int 1)) .nil))) (.cons (.ex (.mt .app 4 (.cons (.op .add (.cons (.op .max (.cons (.pk 4) .nil)) (.cons (.cst (.int 1)) .nil))) .nil))) .nil) .nil) (dre h (some (.own, .lst X)) (some (.sh, .int g)) c6) := by
  have hg : ¬ 1 < g := by omega
  unfold Ps
  simp [L3.evSs, L3.evS.eq_1, L3.evS.eq_2, L3.evS.eq_3, L3.evS.eq_4, L3.evS.eq_5, L3.evS.eq_6, L3.evS.eq_9, L3.evS.eq_10, L3.evS.eq_11, L3.evS.eq_12, L3.evS.eq_13, L3.evS.eq_14, L3.evE.eq_1, L3.evE.eq_2, L3.evE.eq_3, L3.evE.eq_4, L3.evE.eq_5, L3.evE.eq_6, L3.evE.eq_7, L3.evE.eq_8, L3.evE.eq_9, L3.evE.eq_10, L3.evE.eq_11, L3.evE.eq_12, L3.evE.eq_13, L3.evE.eq_14, L3.evE.eq_15, L3.evE.eq_16, L3.evE.eq_18, L3.evE.eq_19, L3.evE.eq_20, L3.evE.eq_21, L3.evA, L3.evP, Law.evS_whlR, Law.evS_frR, Law.evE_lcR, Law.evS_frpR, Law.evE_lcpR, L3.walkP, L3.walkD, L3.unfzO, L3.unfz, Law.frR_nil, Law.frR_cons, Law.lcR_nil, Law.lcR_cons, L3.argOf, L3.Rs.bind, L3.opFin, L3.avDs, L3.avD, L3.vDs, L3.Op.keeps, L3.Op.run, L3.i1, L3.i2, L3.a1, L3.a2, L3.l1, L3.gd, L3.oB, L3.oI, L3.toB, L3.toI, L3.rdVar, L3.mvVar, L3.stVar, L3.stR, L3.stTg, L3.stVars, L3.stVarsO, L3.passA, L3.backA, L3.doCall, L3.cellOf, L3.start3, Law.outs1, Law.outs2, Law.outs3, Law.outs4, L3.resOf, L3.runFn, L3.keepB, L3.Ow.isB, L3.Ow.isOwn, L3.isTys, L3.isTy, L3.itFin, L3.ItK.run, L3.kRng1, L3.kRng2, L3.kSeq, L3.seqD, L3.seqD2, L3.kEnm, L3.enmD, Law.fit_of, Law.fit3, L3.noEr, L3.slFin, L3.slice3, L3.shE, L3.Tg.slots, L3.wipeE, L3.restE, L3.asB, Law.sz0, Law.sz1, Law.sz2, L3.rAdd3, L3.rLen3, L3.rLt3, L3.rIdx3, Law.at30, Law.at31, Law.at32, Law.at20, Law.at21, L3.isNone, Law.eqD_int, Law.md0, Law.md1, Law.md2, Law.md3, Law.md4, Law.md5, Law.md6, Law.md7, Law.md8, Law.md9, Law.md10, Law.md11, Law.md12, Law.md13, Law.md14, Law.md15, Law.md16, Law.md17, Law.md18, Law.md19, Law.md20, Law.md21, Law.md22, Law.md23, Law.md24, Law.md25, dre, hg]
theorem dr_yes (C : CR) (h : D) (X : List D) (is : List Int) (g mx : Int) (c6 : Cell) (hg : 1 < g) (hX : asI X = some is) (hm : maxL is = some mx) (hz : X.length < sizeLine) : Ps WN C (mdOf tb) (dre h (some (.own, .lst X)) (some (.sh, .int g)) c6) (.ife (.op .gt (.cons (.pk 5) (.cons (.cst (.int 1)) .nil))) (.cons (.ex (.mt .app 4 (.cons (.op .add (.cons (.op .max (.cons (.pk 4) .nil)) (.cons (.cst (.int 1)) .nil))) .nil))) .nil) .nil) (dre h (some (.own, .lst (X ++ [.int (mx + 1)]))) (some (.sh, .int g)) c6) := by
  unfold Ps
  simp [L3.evSs, L3.evS.eq_1, L3.evS.eq_2, L3.evS.eq_3, L3.evS.eq_4, L3.evS.eq_5, L3.evS.eq_6, L3.evS.eq_9, L3.evS.eq_10, L3.evS.eq_11, L3.evS.eq_12, L3.evS.eq_13, L3.evS.eq_14, L3.evE.eq_1, L3.evE.eq_2, L3.evE.eq_3, L3.evE.eq_4, L3.evE.eq_5, L3.evE.eq_6, L3.evE.eq_7, L3.evE.eq_8, L3.evE.eq_9, L3.evE.eq_10, L3.evE.eq_11, L3.evE.eq_12, L3.evE.eq_13, L3.evE.eq_14, L3.evE.eq_15, L3.evE.eq_16, L3.evE.eq_18, L3.evE.eq_19, L3.evE.eq_20, L3.evE.eq_21, L3.evA, L3.evP, Law.evS_whlR, Law.evS_frR, Law.evE_lcR, Law.evS_frpR, Law.evE_lcpR, L3.walkP, L3.walkD, L3.unfzO, L3.unfz, Law.frR_nil, Law.frR_cons, Law.lcR_nil, Law.lcR_cons, L3.argOf, L3.Rs.bind, L3.opFin, L3.avDs, L3.avD, L3.vDs, L3.Op.keeps, L3.Op.run, L3.i1, L3.i2, L3.a1, L3.a2, L3.l1, L3.gd, L3.oB, L3.oI, L3.toB, L3.toI, L3.rdVar, L3.mvVar, L3.stVar, L3.stR, L3.stTg, L3.stVars, L3.stVarsO, L3.passA, L3.backA, L3.doCall, L3.cellOf, L3.start3, Law.outs1, Law.outs2, Law.outs3, Law.outs4, L3.resOf, L3.runFn, L3.keepB, L3.Ow.isB, L3.Ow.isOwn, L3.isTys, L3.isTy, L3.itFin, L3.ItK.run, L3.kRng1, L3.kRng2, L3.kSeq, L3.seqD, L3.seqD2, L3.kEnm, L3.enmD, Law.fit_of, Law.fit3, L3.noEr, L3.slFin, L3.slice3, L3.shE, L3.Tg.slots, L3.wipeE, L3.restE, L3.asB, Law.sz0, Law.sz1, Law.sz2, L3.rAdd3, L3.rLen3, L3.rLt3, L3.rIdx3, Law.at30, Law.at31, Law.at32, Law.at20, Law.at21, L3.isNone, Law.eqD_int, Law.md0, Law.md1, Law.md2, Law.md3, Law.md4, Law.md5, Law.md6, Law.md7, Law.md8, Law.md9, Law.md10, Law.md11, Law.md12, Law.md13, Law.md14, Law.md15, Law.md16, Law.md17, Law.md18, Law.md19, Law.md20, Law.md21, Law.md22, Law.md23, Law.md24, Law.md25, dre, hg, hX, hm, mtFin, mtAt, mtPre, Mt.run, hz]
theorem maxL_some : ∀ {L : List Int}, L ≠ [] → ∃ m, maxL L = some m
  | [], h => absurd rfl h
  | a :: r, _ => by
    unfold maxL
    cases maxL r with
    | none => exact ⟨_, rfl⟩
    | some b => exact ⟨_, rfl⟩
theorem c_drawn (n : Nat) {h : D} (H : Hd h) : ∃ h' L, Hd h' ∧ VC L ∧ (∀ c ∈ L, c ≤ 13) ∧ callD tb WN (n + 3) 21 [(true, h), (false, .int 2), (false, .int 12), (false, .int 4)] = .ok (.tup (intN L)) false [some (.brw, h'), none, none, none] := by
  obtain ⟨h1, M, H1, hne, hl, hM, s0⟩ := dr_found (n + 1) H
  obtain ⟨c6, k6, s2⟩ := dr_gcd (n + 1) h1 M hM
  have hgpos : gcdL M ≠ 0 := by
    obtain ⟨c, r, e⟩ := List.exists_cons_of_ne_nil hne
    intro z
    have := gcdL_dvd.mp (Nat.dvd_refl (gcdL M)) c (by rw [e]; exact List.mem_cons_self)
    rw [z] at this
    have := Nat.eq_zero_of_zero_dvd this
    have := hM c (by rw [e]; exact List.mem_cons_self)
    omega
  have s1 : Ps WN (callD tb WN (n + 2)) (mdOf tb) (dre h1 (some (.own, .lst (intN M))) none none) (.asg (.nm 5) (.cst (.int 0))) (dre h1 (some (.own, .lst (intN M))) (some (.sh, .int 0)) none) := by
    unfold Ps
    simp [L3.evSs, L3.evS.eq_1, L3.evS.eq_2, L3.evS.eq_3, L3.evS.eq_4, L3.evS.eq_5, L3.evS.eq_6, L3.evS.eq_9, L3.evS.eq_10, L3.evS.eq_11, L3.evS.eq_12, L3.evS.eq_13, L3.evS.eq_14, L3.evE.eq_1, L3.evE.eq_2, L3.evE.eq_3, L3.evE.eq_4, L3.evE.eq_5, L3.evE.eq_6, L3.evE.eq_7, L3.evE.eq_8, L3.evE.eq_9, L3.evE.eq_10, L3.evE.eq_11, L3.evE.eq_12, L3.evE.eq_13, L3.evE.eq_14, L3.evE.eq_15, L3.evE.eq_16, L3.evE.eq_18, L3.evE.eq_19, L3.evE.eq_20, L3.evE.eq_21, L3.evA, L3.evP, Law.evS_whlR, Law.evS_frR, Law.evE_lcR, Law.evS_frpR, Law.evE_lcpR, L3.walkP, L3.walkD, L3.unfzO, L3.unfz, Law.frR_nil, Law.frR_cons, Law.lcR_nil, Law.lcR_cons, L3.argOf, L3.Rs.bind, L3.opFin, L3.avDs, L3.avD, L3.vDs, L3.Op.keeps, L3.Op.run, L3.i1, L3.i2, L3.a1, L3.a2, L3.l1, L3.gd, L3.oB, L3.oI, L3.toB, L3.toI, L3.rdVar, L3.mvVar, L3.stVar, L3.stR, L3.stTg, L3.stVars, L3.stVarsO, L3.passA, L3.backA, L3.doCall, L3.cellOf, L3.start3, Law.outs1, Law.outs2, Law.outs3, Law.outs4, L3.resOf, L3.runFn, L3.keepB, L3.Ow.isB, L3.Ow.isOwn, L3.isTys, L3.isTy, L3.itFin, L3.ItK.run, L3.kRng1, L3.kRng2, L3.kSeq, L3.seqD, L3.seqD2, L3.kEnm, L3.enmD, Law.fit_of, Law.fit3, L3.noEr, L3.slFin, L3.slice3, L3.shE, L3.Tg.slots, L3.wipeE, L3.restE, L3.asB, Law.sz0, Law.sz1, Law.sz2, L3.rAdd3, L3.rLen3, L3.rLt3, L3.rIdx3, Law.at30, Law.at31, Law.at32, Law.at20, Law.at21, L3.isNone, Law.eqD_int, Law.md0, Law.md1, Law.md2, Law.md3, Law.md4, Law.md5, Law.md6, Law.md7, Law.md8, Law.md9, Law.md10, Law.md11, Law.md12, Law.md13, Law.md14, Law.md15, Law.md16, Law.md17, Law.md18, Law.md19, Law.md20, Law.md21, Law.md22, Law.md23, Law.md24, Law.md25, dre]
  have fin : ∀ (M2 : List Nat) (g : Int), (∀ c ∈ M2, 1 ≤ c ∧ c ≤ 13) → M2.length ≤ 5 → gcdL M2 = 1 → Ps WN (callD tb WN (n + 2)) (mdOf tb) (dre h1 (some (.own, .lst (intN M))) (some (.sh, .int (gcdL M : Nat))) c6) (.ife (.op .gt (.cons (.pk 5) (.cons (.cst (.int 1)) .nil))) (.cons (.ex (.mt .app 4 (.cons (.op .add (.cons (.op .max (.cons (.pk 4) .nil)) (.cons (.cst (.int 1)) .nil))) .nil))) .nil) .nil) (dre h1 (some (.own, .lst (intN M2))) (some (.sh, .int g)) c6) →
      ∃ h' L, Hd h' ∧ VC L ∧ (∀ c ∈ L, c ≤ 13) ∧ callD tb WN (n + 3) 21 [(true, h), (false, .int 2), (false, .int 12), (false, .int 4)] = .ok (.tup (intN L)) false [some (.brw, h'), none, none, none] := by
    intro M2 g hr hl2 hg s3
    have e4 := c_needed n M2 (fun c hc => ⟨(hr c hc).1, by have := (hr c hc).2; omega⟩) (by omega)
    refine ⟨h1, ndF [] (sN M2), H1, vc_of (fun c hc => ⟨(hr c hc).1, by have := (hr c hc).2; omega⟩) (by omega) hg, fun c hc => (hr c ((sN_perm M2).mem_iff.mp (ndF_sub [] _ c hc))).2, ?_⟩
    rw [u21]
    have q4 : (dre h1 (some (.own, .lst (intN M2))) (some (.sh, .int g)) c6)[4]? = some (some (.own, .lst (intN M2))) := rfl
    have s4 : evE (callD tb WN (n + 2)) (mdOf tb) (.call 20 (.cons (.pk 4) .nil)) (dre h1 (some (.own, .lst (intN M2))) (some (.sh, .int g)) c6) = .ok (.tup (intN (ndF [] (sN M2))), false) (dre h1 (some (.own, .lst (intN M2))) (some (.sh, .int g)) c6) := evE_callU (evA_consU (arg_pk q4) evA_nilU) rfl e4 rfl
    have e5 := (ss_step s0).trans ((ss_step s1).trans ((ss_step s2).trans ((ss_step s3).trans (ss_ret (ss := .nil) s4))))
    exact (congrArg (resOf 4) e5).trans rfl
  by_cases hg : gcdL M = 1
  · exact fin M _ (fun c hc => by have := hM c hc; omega) (by omega) hg (dr_no _ h1 (intN M) _ c6 (by rw [hg]; decide))
  · obtain ⟨mx, emx⟩ := maxL_some (L := M.map fun (k : Nat) => (k : Int)) (fun z => hne (List.map_eq_nil_iff.mp z))
    obtain ⟨hmem, hmax⟩ := maxL_ok emx
    obtain ⟨c, hc, rfl⟩ := List.mem_map.mp hmem
    have hg1 : (1 : Int) < ((gcdL M : Nat) : Int) := by omega
    have hr := hM c hc
    refine fin (M ++ [c + 1]) _ (fun x hx => ?_) (by simp; omega) ?_ (by
      have := dr_yes (callD tb WN (n + 2)) h1 (intN M) _ _ (c : Int) c6 hg1 (asI_intN M) emx (by rw [intN_len]; exact lt_szM (by omega))
      have e : intN (M ++ [c + 1]) = intN M ++ [.int ((c : Int) + 1)] := by unfold intN; rw [List.map_append]; rfl
      rw [e]
      exact this)
    · rcases List.mem_append.mp hx with hx | hx
      · have := hM x hx; omega
      · rw [List.mem_singleton.mp hx]; omega
    · have h1 := gcdL_dvd.mp (Nat.dvd_refl (gcdL (M ++ [c + 1]))) c (List.mem_append_left _ hc)
      have h2 := gcdL_dvd.mp (Nat.dvd_refl (gcdL (M ++ [c + 1]))) (c + 1) (List.mem_append_right _ (List.mem_singleton.mpr rfl))
      exact Nat.dvd_one.mp ((Nat.dvd_add_right h1).mp h2)
end Law

namespace Law
open PySem PySem.Spec PyProof.Rows L2 L3
/-! ### marks -/
noncomputable def ssm (L : List Nat) (F : List Int) (N : Nat) : Int := (((List.range N).filter fun x => gb L (N - x)).map fun x => F[x]?.getD 0).sum
noncomputable def nxm (L : List Nat) (F : List Int) (N : Nat) : Int := if gb L N then (if N = 0 then 1 else -(ssm L F N)) else 0
noncomputable def mkL (L : List Nat) : Nat → List Int
  | 0 => []
  | N + 1 => mkL L N ++ [nxm L (mkL L N) N]
noncomputable def mv (L : List Nat) (N : Nat) : Int := nxm L (mkL L N) N
theorem mkL_eq (L : List Nat) : ∀ N, mkL L N = (List.range N).map (mv L)
  | 0 => rfl
  | N + 1 => by
    show mkL L N ++ [mv L N] = _
    rw [mkL_eq L N, List.range_succ, List.map_append]; rfl
theorem mkL_len (L : List Nat) (N : Nat) : (mkL L N).length = N := by rw [mkL_eq]; simp
theorem mkL_get (L : List Nat) {N x : Nat} (h : x < N) : (mkL L N)[x]? = some (mv L x) := by rw [mkL_eq, List.getElem?_map, List.getElem?_range h]; rfl
/-- the sum over what is below -/
noncomputable def sS (L : List Nat) (N : Nat) : Int := (((List.range N).filter fun x => gb L (N - x)).map (mv L)).sum
theorem ssm_eq (L : List Nat) (N : Nat) : ssm L (mkL L N) N = sS L N := by
  unfold ssm sS
  congr 1
  refine List.map_congr_left fun x hx => ?_
  have := List.mem_range.mp (List.mem_filter.mp hx).1
  rw [mkL_get L this]; rfl
theorem mv_eq (L : List Nat) (N : Nat) : mv L N = if gb L N then (if N = 0 then 1 else -(sS L N)) else 0 := by
  show nxm L (mkL L N) N = _
  unfold nxm
  rw [ssm_eq]
theorem mv_gap {L : List Nat} {N : Nat} (h : gb L N = false) : mv L N = 0 := by rw [mv_eq, h]; rfl
theorem mv_zero (L : List Nat) : mv L 0 = 1 := by rw [mv_eq, gb_zero]; rfl
theorem mkL_take (L : List Nat) (M : Nat) : ∀ N, M ≤ N → (mkL L N).take M = mkL L M := fun N h => by
  rw [mkL_eq, mkL_eq, ← List.map_take, List.take_range, Nat.min_eq_left h]
theorem sum_zero : ∀ (l : List Nat) (f : Nat → Int), (∀ x ∈ l, f x = 0) → (l.map f).sum = 0
  | [], _, _ => rfl
  | a :: l, f, h => by
    show f a + (l.map f).sum = 0
    rw [h a List.mem_cons_self, sum_zero l f fun x hx => h x (List.mem_cons_of_mem _ hx)]; rfl
theorem sum_app (l m : List Nat) (f : Nat → Int) : ((l ++ m).map f).sum = (l.map f).sum + (m.map f).sum := by
  rw [List.map_append, List.sum_append]
/-- gaps have no mark -/
theorem sS_both (L : List Nat) (N : Nat) : ∀ l : List Nat, ((l.filter fun x => gb L x && gb L (N - x)).map (mv L)).sum = ((l.filter fun x => gb L (N - x)).map (mv L)).sum
  | [] => rfl
  | a :: l => by
    have ih := sS_both L N l
    cases h1 : gb L a with
    | true =>
      cases h2 : gb L (N - a) with
      | true => simp [h1, h2, ih]
      | false => simp [h1, h2, ih]
    | false =>
      cases h2 : gb L (N - a) with
      | true => simp [h1, h2, ih, mv_gap h1]
      | false => simp [h1, h2, ih]
/-- the row of payable sums times the marks -/
theorem conv {L : List Nat} {N : Nat} (hN : 0 < N) : (((List.range (N + 1)).filter fun x => gb L (N - x)).map (mv L)).sum = 0 := by
  rw [List.range_succ, List.filter_append, sum_app]
  have e : ([N].filter fun x => gb L (N - x)) = [N] := by

    simp [gb_zero]
  rw [e]
  show sS L N + (mv L N + 0) = 0
  cases h : gb L N with
  | true =>
    rw [mv_eq L N, h]
    have : N ≠ 0 := by omega
    simp [gb_zero]
    omega
  | false =>
    rw [mv_gap h]
    have : sS L N = 0 := by
      refine sum_zero _ _ fun x hx => ?_
      obtain ⟨h1, h2⟩ := List.mem_filter.mp hx
      have h1 := List.mem_range.mp h1
      cases hx' : gb L x with
      | false => exact mv_gap hx'
      | true =>
        exfalso
        have := (gb_iff.mp hx').plus (gb_iff.mp h2)
        rw [show x + (N - x) = N by omega] at this
        exact gb_no.mp h this
    rw [this]; rfl
/-- the marks are the only row that does so -/
theorem conv_uniq {L : List Nat} (f : Nat → Int) (h0 : f 0 = 1) (B : Nat) (h : ∀ N, 0 < N → N ≤ B → (((List.range (N + 1)).filter fun x => gb L (N - x)).map f).sum = 0) : ∀ N, N ≤ B → f N = mv L N := by
  intro N
  induction N using Nat.strongRecOn with
  | _ N ih =>
    intro hB
    by_cases hN : N = 0
    · rw [hN, h0, mv_zero]
    have h1 := h N (by omega) hB
    have h2 := conv (L := L) (N := N) (by omega)
    rw [List.range_succ, List.filter_append, sum_app] at h1 h2
    have e : ([N].filter fun x => gb L (N - x)) = [N] := by

      simp [gb_zero]
    rw [e] at h1 h2
    have e2 : (((List.range N).filter fun x => gb L (N - x)).map f).sum = (((List.range N).filter fun x => gb L (N - x)).map (mv L)).sum := by
      congr 1
      refine List.map_congr_left fun x hx => ?_
      have := List.mem_range.mp (List.mem_filter.mp hx).1
      exact ih x this (by omega)
    rw [e2] at h1
    have h1 : _ + (f N + 0) = (0 : Int) := h1
    have h2 : _ + (mv L N + 0) = (0 : Int) := h2
    omega
end Law

namespace Law
open PySem PySem.Spec PyProof.Rows L2 L3
/-! ### order_mark -/
theorem isys_ty {L : List Nat} {o : D} (s : isSys L o) : ∃ ns xs, o = .obj 4 ns xs := by obtain ⟨m, R, vs, rfl, _⟩ := s; exact ⟨_, _, rfl⟩
theorem c_chk (n : Nat) (ns : List Str) (xs : List D) : callD tb WN (n + 1) 10 [(false, .obj 4 ns xs)] = .ok .non false [none] := by
  rw [u10]; unfold fn_check_system
  simp [L3.evSs, L3.evS.eq_1, L3.evS.eq_2, L3.evS.eq_3, L3.evS.eq_4, L3.evS.eq_5, L3.evS.eq_6, L3.evS.eq_9, L3.evS.eq_10, L3.evS.eq_11, L3.evS.eq_12, L3.evS.eq_13, L3.evS.eq_14, L3.evE.eq_1, L3.evE.eq_2, L3.evE.eq_3, L3.evE.eq_4, L3.evE.eq_5, L3.evE.eq_6, L3.evE.eq_7, L3.evE.eq_8, L3.evE.eq_9, L3.evE.eq_10, L3.evE.eq_11, L3.evE.eq_12, L3.evE.eq_13, L3.evE.eq_14, L3.evE.eq_15, L3.evE.eq_16, L3.evE.eq_18, L3.evE.eq_19, L3.evE.eq_20, L3.evE.eq_21, L3.evA, L3.evP, Law.evS_whlR, Law.evS_frR, Law.evE_lcR, Law.evS_frpR, Law.evE_lcpR, L3.walkP, L3.walkD, L3.unfzO, L3.unfz, Law.frR_nil, Law.frR_cons, Law.lcR_nil, Law.lcR_cons, L3.argOf, L3.Rs.bind, L3.opFin, L3.avDs, L3.avD, L3.vDs, L3.Op.keeps, L3.Op.run, L3.i1, L3.i2, L3.a1, L3.a2, L3.l1, L3.gd, L3.oB, L3.oI, L3.toB, L3.toI, L3.rdVar, L3.mvVar, L3.stVar, L3.stR, L3.stTg, L3.stVars, L3.stVarsO, L3.passA, L3.backA, L3.doCall, L3.cellOf, L3.start3, Law.outs1, Law.outs2, Law.outs3, Law.outs4, L3.resOf, L3.runFn, L3.keepB, L3.Ow.isB, L3.Ow.isOwn, L3.isTys, L3.isTy, L3.itFin, L3.ItK.run, L3.kRng1, L3.kRng2, L3.kSeq, L3.seqD, L3.seqD2, L3.kEnm, L3.enmD, Law.fit_of, Law.fit3, L3.noEr, L3.slFin, L3.slice3, L3.shE, L3.Tg.slots, L3.wipeE, L3.restE, L3.asB, Law.sz0, Law.sz1, Law.sz2, L3.rAdd3, L3.rLen3, L3.rLt3, L3.rIdx3, Law.at30, Law.at31, Law.at32, Law.at20, Law.at21, L3.isNone, Law.eqD_int, Law.md0, Law.md1, Law.md2, Law.md3, Law.md4, Law.md5, Law.md6, Law.md7, Law.md8, Law.md9, Law.md10, Law.md11, Law.md12, Law.md13, Law.md14, Law.md15, Law.md16, Law.md17, Law.md18, Law.md19, Law.md20, Law.md21, Law.md22, Law.md23, Law.md24, Law.md25]
def ome (o : D) (most : Int) (F : List D) (c3 c4 : Cell) : En := [some (.sh, o), some (.sh, .int most), some (.own, .lst F), c3, c4, none]
theorem om_no (C : CR) (o : D) (most K : Int) (F : List D) (c3 c4 : Cell) (k3 : okc c3) (hz : F.length < sizeLine) (hp : C 11 [(false, o), (false, .int K)] = .ok (.bl false) false [none, none]) :
    ((stR (stTg (.nm 3) (.int K) false (ome o most F c3 c4))).bind fun _ en => evSs WN C (mdOf tb) F12_0 en) = .ok .nx (ome o most (F ++ [.int 0]) (some (.sh, .int K)) c4) := by
  rcases k3 with rfl | ⟨_, rfl⟩ <;> simp [L3.evSs, L3.evS.eq_1, L3.evS.eq_2, L3.evS.eq_3, L3.evS.eq_4, L3.evS.eq_5, L3.evS.eq_6, L3.evS.eq_9, L3.evS.eq_10, L3.evS.eq_11, L3.evS.eq_12, L3.evS.eq_13, L3.evS.eq_14, L3.evE.eq_1, L3.evE.eq_2, L3.evE.eq_3, L3.evE.eq_4, L3.evE.eq_5, L3.evE.eq_6, L3.evE.eq_7, L3.evE.eq_8, L3.evE.eq_9, L3.evE.eq_10, L3.evE.eq_11, L3.evE.eq_12, L3.evE.eq_13, L3.evE.eq_14, L3.evE.eq_15, L3.evE.eq_16, L3.evE.eq_18, L3.evE.eq_19, L3.evE.eq_20, L3.evE.eq_21, L3.evA, L3.evP, Law.evS_whlR, Law.evS_frR, Law.evE_lcR, Law.evS_frpR, Law.evE_lcpR, L3.walkP, L3.walkD, L3.unfzO, L3.unfz, Law.frR_nil, Law.frR_cons, Law.lcR_nil, Law.lcR_cons, L3.argOf, L3.Rs.bind, L3.opFin, L3.avDs, L3.avD, L3.vDs, L3.Op.keeps, L3.Op.run, L3.i1, L3.i2, L3.a1, L3.a2, L3.l1, L3.gd, L3.oB, L3.oI, L3.toB, L3.toI, L3.rdVar, L3.mvVar, L3.stVar, L3.stR, L3.stTg, L3.stVars, L3.stVarsO, L3.passA, L3.backA, L3.doCall, L3.cellOf, L3.start3, Law.outs1, Law.outs2, Law.outs3, Law.outs4, L3.resOf, L3.runFn, L3.keepB, L3.Ow.isB, L3.Ow.isOwn, L3.isTys, L3.isTy, L3.itFin, L3.ItK.run, L3.kRng1, L3.kRng2, L3.kSeq, L3.seqD, L3.seqD2, L3.kEnm, L3.enmD, Law.fit_of, Law.fit3, L3.noEr, L3.slFin, L3.slice3, L3.shE, L3.Tg.slots, L3.wipeE, L3.restE, L3.asB, Law.sz0, Law.sz1, Law.sz2, L3.rAdd3, L3.rLen3, L3.rLt3, L3.rIdx3, Law.at30, Law.at31, Law.at32, Law.at20, Law.at21, L3.isNone, Law.eqD_int, Law.md0, Law.md1, Law.md2, Law.md3, Law.md4, Law.md5, Law.md6, Law.md7, Law.md8, Law.md9, Law.md10, Law.md11, Law.md12, Law.md13, Law.md14, Law.md15, Law.md16, Law.md17, Law.md18, Law.md19, Law.md20, Law.md21, Law.md22, Law.md23, Law.md24, Law.md25, F12_0, ome, hp, mtFin, mtAt, mtPre, Mt.run, hz]
theorem om_yes (C : CR) (o : D) (most K s : Int) (F G : List D) (is : List Int) (c3 c4 : Cell) (k3 : okc c3) (k4 : okc c4) (hz : F.length < sizeLine) (hp : C 11 [(false, o), (false, .int K)] = .ok (.bl true) false [none, none]) (iK : inB K = true) (hG : rngI 0 K.toNat = G) (X : List D) (hX : asI X = some is) (hs : is.sum = s)
    (f : lcR C (mdOf tb) [5] (.nm 5) L12_1c L12_1 G [] (ome o most F (some (.sh, .int K)) c4) = .ok X (ome o most F (some (.sh, .int K)) c4)) :
    ((stR (stTg (.nm 3) (.int K) false (ome o most F c3 c4))).bind fun _ en => evSs WN C (mdOf tb) F12_0 en) = .ok .nx (ome o most (F ++ [.int (if K = 0 then 1 else -s)]) (some (.sh, .int K)) (some (.sh, .int s))) := by
  simp only [ome] at f
  by_cases hK : K = 0
  · subst hK
    simp at hG
    rcases k3 with rfl | ⟨_, rfl⟩ <;> rcases k4 with rfl | ⟨_, rfl⟩ <;> simp [L3.evSs, L3.evS.eq_1, L3.evS.eq_2, L3.evS.eq_3, L3.evS.eq_4, L3.evS.eq_5, L3.evS.eq_6, L3.evS.eq_9, L3.evS.eq_10, L3.evS.eq_11, L3.evS.eq_12, L3.evS.eq_13, L3.evS.eq_14, L3.evE.eq_1, L3.evE.eq_2, L3.evE.eq_3, L3.evE.eq_4, L3.evE.eq_5, L3.evE.eq_6, L3.evE.eq_7, L3.evE.eq_8, L3.evE.eq_9, L3.evE.eq_10, L3.evE.eq_11, L3.evE.eq_12, L3.evE.eq_13, L3.evE.eq_14, L3.evE.eq_15, L3.evE.eq_16, L3.evE.eq_18, L3.evE.eq_19, L3.evE.eq_20, L3.evE.eq_21, L3.evA, L3.evP, Law.evS_whlR, Law.evS_frR, Law.evE_lcR, Law.evS_frpR, Law.evE_lcpR, L3.walkP, L3.walkD, L3.unfzO, L3.unfz, L3.argOf, L3.Rs.bind, L3.opFin, L3.avDs, L3.avD, L3.vDs, L3.Op.keeps, L3.Op.run, L3.i1, L3.i2, L3.a1, L3.a2, L3.l1, L3.gd, L3.oB, L3.oI, L3.toB, L3.toI, L3.rdVar, L3.mvVar, L3.stVar, L3.stR, L3.stTg, L3.stVars, L3.stVarsO, L3.passA, L3.backA, L3.doCall, L3.cellOf, L3.start3, Law.outs1, Law.outs2, Law.outs3, Law.outs4, L3.resOf, L3.runFn, L3.keepB, L3.Ow.isB, L3.Ow.isOwn, L3.isTys, L3.isTy, L3.itFin, L3.ItK.run, L3.kRng1, L3.kRng2, L3.kSeq, L3.seqD, L3.seqD2, L3.kEnm, L3.enmD, Law.fit_of, Law.fit3, L3.noEr, L3.slFin, L3.slice3, L3.shE, L3.Tg.slots, L3.wipeE, L3.restE, L3.asB, Law.sz0, Law.sz1, Law.sz2, L3.rAdd3, L3.rLen3, L3.rLt3, L3.rIdx3, Law.at30, Law.at31, Law.at32, Law.at20, Law.at21, L3.isNone, Law.eqD_int, Law.md0, Law.md1, Law.md2, Law.md3, Law.md4, Law.md5, Law.md6, Law.md7, Law.md8, Law.md9, Law.md10, Law.md11, Law.md12, Law.md13, Law.md14, Law.md15, Law.md16, Law.md17, Law.md18, Law.md19, Law.md20, Law.md21, Law.md22, Law.md23, Law.md24, Law.md25, F12_0, ome, hp, f, iK, hG, hX, hs, mtFin, mtAt, mtPre, Mt.run, hz]
  · rcases k3 with rfl | ⟨_, rfl⟩ <;> rcases k4 with rfl | ⟨_, rfl⟩ <;> simp [L3.evSs, L3.evS.eq_1, L3.evS.eq_2, L3.evS.eq_3, L3.evS.eq_4, L3.evS.eq_5, L3.evS.eq_6, L3.evS.eq_9, L3.evS.eq_10, L3.evS.eq_11, L3.evS.eq_12, L3.evS.eq_13, L3.evS.eq_14, L3.evE.eq_1, L3.evE.eq_2, L3.evE.eq_3, L3.evE.eq_4, L3.evE.eq_5, L3.evE.eq_6, L3.evE.eq_7, L3.evE.eq_8, L3.evE.eq_9, L3.evE.eq_10, L3.evE.eq_11, L3.evE.eq_12, L3.evE.eq_13, L3.evE.eq_14, L3.evE.eq_15, L3.evE.eq_16, L3.evE.eq_18, L3.evE.eq_19, L3.evE.eq_20, L3.evE.eq_21, L3.evA, L3.evP, Law.evS_whlR, Law.evS_frR, Law.evE_lcR, Law.evS_frpR, Law.evE_lcpR, L3.walkP, L3.walkD, L3.unfzO, L3.unfz, L3.argOf, L3.Rs.bind, L3.opFin, L3.avDs, L3.avD, L3.vDs, L3.Op.keeps, L3.Op.run, L3.i1, L3.i2, L3.a1, L3.a2, L3.l1, L3.gd, L3.oB, L3.oI, L3.toB, L3.toI, L3.rdVar, L3.mvVar, L3.stVar, L3.stR, L3.stTg, L3.stVars, L3.stVarsO, L3.passA, L3.backA, L3.doCall, L3.cellOf, L3.start3, Law.outs1, Law.outs2, Law.outs3, Law.outs4, L3.resOf, L3.runFn, L3.keepB, L3.Ow.isB, L3.Ow.isOwn, L3.isTys, L3.isTy, L3.itFin, L3.ItK.run, L3.kRng1, L3.kRng2, L3.kSeq, L3.seqD, L3.seqD2, L3.kEnm, L3.enmD, Law.fit_of, Law.fit3, L3.noEr, L3.slFin, L3.slice3, L3.shE, L3.Tg.slots, L3.wipeE, L3.restE, L3.asB, Law.sz0, Law.sz1, Law.sz2, L3.rAdd3, L3.rLen3, L3.rLt3, L3.rIdx3, Law.at30, Law.at31, Law.at32, Law.at20, Law.at21, L3.isNone, Law.eqD_int, Law.md0, Law.md1, Law.md2, Law.md3, Law.md4, Law.md5, Law.md6, Law.md7, Law.md8, Law.md9, Law.md10, Law.md11, Law.md12, Law.md13, Law.md14, Law.md15, Law.md16, Law.md17, Law.md18, Law.md19, Law.md20, Law.md21, Law.md22, Law.md23, Law.md24, Law.md25, F12_0, ome, hp, f, iK, hG, hX, hs, hK, mtFin, mtAt, mtPre, Mt.run, hz]
/-- a walk over numbers, some taken, by their values -/
noncomputable def selD (p : Nat → Bool) : D → Bool := fun d => match d with | .int i => p i.toNat | _ => false
noncomputable def valD (f : Nat → Int) : D → D := fun d => match d with | .int i => .int (f i.toNat) | d => d
theorem sel_rng (p : Nat → Bool) (f : Nat → Int) (N : Nat) : ((rngI 0 N).filter (selD p)).map (valD f) = (((List.range N).filter p).map f).map D.int := by
  unfold rngI
  rw [List.filter_map, List.map_map, List.map_map]
  have e : (selD p ∘ fun (k : Nat) => D.int (0 + (k : Int))) = p := by
    funext k
    show p (0 + (k : Int)).toNat = p k
    rw [Int.zero_add, Int.toNat_natCast]
  rw [e]
  refine List.map_congr_left fun k _ => ?_
  show D.int (f (0 + (k : Int)).toNat) = D.int (f k)
  rw [Int.zero_add, Int.toNat_natCast]
theorem om_item (C : CR) (o : D) (most K x r v : Int) (F : List D) (c4 : Cell) (b : Bool) (hr : K - x = r) (hp : C 11 [(false, o), (false, .int r)] = .ok (.bl b) false [none, none]) (hx : atI F x = some (.int v)) :
    toB (evE C (mdOf tb) L12_1c [some (.sh, o), some (.sh, .int most), some (.own, .lst F), some (.sh, .int K), c4, some (.sh, .int x)]) = .ok b [some (.sh, o), some (.sh, .int most), some (.own, .lst F), some (.sh, .int K), c4, some (.sh, .int x)] ∧
    evE C (mdOf tb) L12_1 [some (.sh, o), some (.sh, .int most), some (.own, .lst F), some (.sh, .int K), c4, some (.sh, .int x)] = .ok (.int v, false) [some (.sh, o), some (.sh, .int most), some (.own, .lst F), some (.sh, .int K), c4, some (.sh, .int x)] := by
  constructor
  · simp [L3.evSs, L3.evS.eq_1, L3.evS.eq_2, L3.evS.eq_3, L3.evS.eq_4, L3.evS.eq_5, L3.evS.eq_6, L3.evS.eq_9, L3.evS.eq_10, L3.evS.eq_11, L3.evS.eq_12, L3.evS.eq_13, L3.evS.eq_14, L3.evE.eq_1, L3.evE.eq_2, L3.evE.eq_3, L3.evE.eq_4, L3.evE.eq_5, L3.evE.eq_6, L3.evE.eq_7, L3.evE.eq_8, L3.evE.eq_9, L3.evE.eq_10, L3.evE.eq_11, L3.evE.eq_12, L3.evE.eq_13, L3.evE.eq_14, L3.evE.eq_15, L3.evE.eq_16, L3.evE.eq_18, L3.evE.eq_19, L3.evE.eq_20, L3.evE.eq_21, L3.evA, L3.evP, Law.evS_whlR, Law.evS_frR, Law.evE_lcR, Law.evS_frpR, Law.evE_lcpR, L3.walkP, L3.walkD, L3.unfzO, L3.unfz, Law.frR_nil, Law.frR_cons, Law.lcR_nil, Law.lcR_cons, L3.argOf, L3.Rs.bind, L3.opFin, L3.avDs, L3.avD, L3.vDs, L3.Op.keeps, L3.Op.run, L3.i1, L3.i2, L3.a1, L3.a2, L3.l1, L3.gd, L3.oB, L3.oI, L3.toB, L3.toI, L3.rdVar, L3.mvVar, L3.stVar, L3.stR, L3.stTg, L3.stVars, L3.stVarsO, L3.passA, L3.backA, L3.doCall, L3.cellOf, L3.start3, Law.outs1, Law.outs2, Law.outs3, Law.outs4, L3.resOf, L3.runFn, L3.keepB, L3.Ow.isB, L3.Ow.isOwn, L3.isTys, L3.isTy, L3.itFin, L3.ItK.run, L3.kRng1, L3.kRng2, L3.kSeq, L3.seqD, L3.seqD2, L3.kEnm, L3.enmD, Law.fit_of, Law.fit3, L3.noEr, L3.slFin, L3.slice3, L3.shE, L3.Tg.slots, L3.wipeE, L3.restE, L3.asB, Law.sz0, Law.sz1, Law.sz2, L3.rAdd3, L3.rLen3, L3.rLt3, L3.rIdx3, Law.at30, Law.at31, Law.at32, Law.at20, Law.at21, L3.isNone, Law.eqD_int, Law.md0, Law.md1, Law.md2, Law.md3, Law.md4, Law.md5, Law.md6, Law.md7, Law.md8, Law.md9, Law.md10, Law.md11, Law.md12, Law.md13, Law.md14, Law.md15, Law.md16, Law.md17, Law.md18, Law.md19, Law.md20, Law.md21, Law.md22, Law.md23, Law.md24, Law.md25, L12_1c, hr, hp]
  · simp [L3.evSs, L3.evS.eq_1, L3.evS.eq_2, L3.evS.eq_3, L3.evS.eq_4, L3.evS.eq_5, L3.evS.eq_6, L3.evS.eq_9, L3.evS.eq_10, L3.evS.eq_11, L3.evS.eq_12, L3.evS.eq_13, L3.evS.eq_14, L3.evE.eq_1, L3.evE.eq_2, L3.evE.eq_3, L3.evE.eq_4, L3.evE.eq_5, L3.evE.eq_6, L3.evE.eq_7, L3.evE.eq_8, L3.evE.eq_9, L3.evE.eq_10, L3.evE.eq_11, L3.evE.eq_12, L3.evE.eq_13, L3.evE.eq_14, L3.evE.eq_15, L3.evE.eq_16, L3.evE.eq_18, L3.evE.eq_19, L3.evE.eq_20, L3.evE.eq_21, L3.evA, L3.evP, Law.evS_whlR, Law.evS_frR, Law.evE_lcR, Law.evS_frpR, Law.evE_lcpR, L3.walkP, L3.walkD, L3.unfzO, L3.unfz, Law.frR_nil, Law.frR_cons, Law.lcR_nil, Law.lcR_cons, L3.argOf, L3.Rs.bind, L3.opFin, L3.avDs, L3.avD, L3.vDs, L3.Op.keeps, L3.Op.run, L3.i1, L3.i2, L3.a1, L3.a2, L3.l1, L3.gd, L3.oB, L3.oI, L3.toB, L3.toI, L3.rdVar, L3.mvVar, L3.stVar, L3.stR, L3.stTg, L3.stVars, L3.stVarsO, L3.passA, L3.backA, L3.doCall, L3.cellOf, L3.start3, Law.outs1, Law.outs2, Law.outs3, Law.outs4, L3.resOf, L3.runFn, L3.keepB, L3.Ow.isB, L3.Ow.isOwn, L3.isTys, L3.isTy, L3.itFin, L3.ItK.run, L3.kRng1, L3.kRng2, L3.kSeq, L3.seqD, L3.seqD2, L3.kEnm, L3.enmD, Law.fit_of, Law.fit3, L3.noEr, L3.slFin, L3.slice3, L3.shE, L3.Tg.slots, L3.wipeE, L3.restE, L3.asB, Law.sz0, Law.sz1, Law.sz2, L3.rAdd3, L3.rLen3, L3.rLt3, L3.rIdx3, Law.at30, Law.at31, Law.at32, Law.at20, Law.at21, L3.isNone, Law.eqD_int, Law.md0, Law.md1, Law.md2, Law.md3, Law.md4, Law.md5, Law.md6, Law.md7, Law.md8, Law.md9, Law.md10, Law.md11, Law.md12, Law.md13, Law.md14, Law.md15, Law.md16, Law.md17, Law.md18, Law.md19, Law.md20, Law.md21, Law.md22, Law.md23, Law.md24, Law.md25, L12_1, hx]
theorem om_lc (n : Nat) {L : List Nat} {o : D} (s : isSys L o) (most : Int) (K : Nat) (hK : K ≤ 3000) (c4 : Cell) :
    lcR (callD tb WN (n + 1)) (mdOf tb) [5] (.nm 5) L12_1c L12_1 (rngI 0 K) [] (ome o most ((mkL L K).map D.int) (some (.sh, .int (K : Int))) c4) = .ok ((((List.range K).filter fun x => gb L (K - x)).map (mv L)).map D.int) (ome o most ((mkL L K).map D.int) (some (.sh, .int (K : Int))) c4) := by
  have := lcR_fil (C := callD tb WN (n + 1)) (md := mdOf tb) (vs := [5]) (tg := .nm 5) (c := L12_1c) (e := L12_1) (en0 := ome o most ((mkL L K).map D.int) (some (.sh, .int (K : Int))) c4) (selD fun x => gb L (K - x)) (valD (mv L)) (rngI 0 K) [] (by
    intro d hd
    obtain ⟨X, rfl, k0, k1⟩ := mem_rngI hd
    obtain ⟨x, rfl⟩ : ∃ x : Nat, X = x := ⟨X.toNat, by omega⟩
    have e : (K : Int) - (x : Int) = ((K - x : Nat) : Int) := by omega
    have hp := c_pays_of n false s ((K - x : Nat) : Int)
    have hgi : gi L ((K - x : Nat) : Int) = gb L (K - x) := by unfold gi; rw [decide_eq_true (by omega), Int.toNat_natCast]; rfl
    rw [hgi] at hp
    have hx : atI ((mkL L K).map D.int) (x : Int) = some (.int (mv L x)) := L3.atI_nat (by rw [List.getElem?_map, mkL_get L (by omega)]; rfl)
    obtain ⟨g1, g2⟩ := om_item (callD tb WN (n + 1)) o most K x _ _ _ c4 _ e hp hx
    refine ⟨_, rfl, ?_, fun _ => ⟨false, ?_⟩, rfl⟩
    · exact g1
    · exact g2) (by rw [rngI_len]; exact sz_of (by show 0 + K ≤ _; omega))
  rw [List.nil_append, sel_rng] at this
  exact this
theorem mkL_succ (L : List Nat) (N : Nat) : mkL L (N + 1) = mkL L N ++ [mv L N] := rfl
theorem om_run (C : CR) (o : D) (most T : Int) (F G : List D) (c3 c4 : Cell) (hT : most + 1 = T) (h1 : C 10 [(false, o)] = .ok .non false [none]) (h2 : C 1 [(false, .int most), (false, .int 0), (false, .int 2000)] = .ok (.bl true) false [none, none, none]) (iT : inB T = true) (hG : rngI 0 T.toNat = G)
    (f : frR WN C (mdOf tb) (.nm 3) F12_0 G (ome o most [] none none) = .ok .nx (ome o most F c3 c4)) :
    runFn WN C (mdOf tb) fn_order_mark [(false, o), (false, .int most)] = .ok (.tup F) false [none, none] := by
  simp only [ome] at f
  unfold fn_order_mark
  simp [L3.evSs, L3.evS.eq_1, L3.evS.eq_2, L3.evS.eq_3, L3.evS.eq_4, L3.evS.eq_5, L3.evS.eq_6, L3.evS.eq_9, L3.evS.eq_10, L3.evS.eq_11, L3.evS.eq_12, L3.evS.eq_13, L3.evS.eq_14, L3.evE.eq_1, L3.evE.eq_2, L3.evE.eq_3, L3.evE.eq_4, L3.evE.eq_5, L3.evE.eq_6, L3.evE.eq_7, L3.evE.eq_8, L3.evE.eq_9, L3.evE.eq_10, L3.evE.eq_11, L3.evE.eq_12, L3.evE.eq_13, L3.evE.eq_14, L3.evE.eq_15, L3.evE.eq_16, L3.evE.eq_18, L3.evE.eq_19, L3.evE.eq_20, L3.evE.eq_21, L3.evA, L3.evP, Law.evS_whlR, Law.evS_frR, Law.evE_lcR, Law.evS_frpR, Law.evE_lcpR, L3.walkP, L3.walkD, L3.unfzO, L3.unfz, L3.argOf, L3.Rs.bind, L3.opFin, L3.avDs, L3.avD, L3.vDs, L3.Op.keeps, L3.Op.run, L3.i1, L3.i2, L3.a1, L3.a2, L3.l1, L3.gd, L3.oB, L3.oI, L3.toB, L3.toI, L3.rdVar, L3.mvVar, L3.stVar, L3.stR, L3.stTg, L3.stVars, L3.stVarsO, L3.passA, L3.backA, L3.doCall, L3.cellOf, L3.start3, Law.outs1, Law.outs2, Law.outs3, Law.outs4, L3.resOf, L3.runFn, L3.keepB, L3.Ow.isB, L3.Ow.isOwn, L3.isTys, L3.isTy, L3.itFin, L3.ItK.run, L3.kRng1, L3.kRng2, L3.kSeq, L3.seqD, L3.seqD2, L3.kEnm, L3.enmD, Law.fit_of, Law.fit3, L3.noEr, L3.slFin, L3.slice3, L3.shE, L3.Tg.slots, L3.wipeE, L3.restE, L3.asB, Law.sz0, Law.sz1, Law.sz2, L3.rAdd3, L3.rLen3, L3.rLt3, L3.rIdx3, Law.at30, Law.at31, Law.at32, Law.at20, Law.at21, L3.isNone, Law.eqD_int, Law.md0, Law.md1, Law.md2, Law.md3, Law.md4, Law.md5, Law.md6, Law.md7, Law.md8, Law.md9, Law.md10, Law.md11, Law.md12, Law.md13, Law.md14, Law.md15, Law.md16, Law.md17, Law.md18, Law.md19, Law.md20, Law.md21, Law.md22, Law.md23, Law.md24, Law.md25, h1, h2, hT, iT, hG, f]
theorem c_order (n : Nat) {L : List Nat} {o : D} (s : isSys L o) (most : Nat) (hm : most ≤ 2000) : callD tb WN (n + 3) 12 [(false, o), (false, .int (most : Int))] = .ok (.tup ((mkL L (most + 1)).map D.int)) false [none, none] := by
  obtain ⟨en', e1, c3, c4, k3, k4, e2⟩ := frR_rng (w := WN) (C := callD tb WN (n + 2)) (md := mdOf tb) (tg := .nm 3) (b := F12_0)
    (fun K en => ∃ c3 c4, okc c3 ∧ okc c4 ∧ en = ome o most ((mkL L K).map D.int) c3 c4) (most + 1) 0 (ome o most [] none none) ⟨_, _, .inl rfl, .inl rfl, rfl⟩ (by
    intro K _ hK en ⟨c3, c4, k3, k4, e⟩
    subst e
    have hz : ((mkL L K).map D.int).length < sizeLine := by rw [List.length_map, mkL_len]; exact lt_szM (by omega)
    have hp := c_pays_of (n + 1) false s (K : Int)
    have hgi : gi L (K : Int) = gb L K := by unfold gi; rw [decide_eq_true (by omega), Int.toNat_natCast]; rfl
    rw [hgi] at hp
    rw [mkL_succ, List.map_append]
    cases hg : gb L K with
    | false =>
      rw [hg] at hp
      have hv : mv L K = 0 := mv_gap hg
      have := om_no (callD tb WN (n + 2)) o most K ((mkL L K).map D.int) c3 c4 k3 hz hp
      rw [hv]
      exact ⟨_, this, _, _, okc_sh, k4, rfl⟩
    | true =>
      rw [hg] at hp
      have hv : mv L K = if (K : Int) = 0 then 1 else -(sS L K) := by
        rw [mv_eq, hg]
        by_cases h0 : K = 0
        · subst h0; rfl
        · have : ¬ (K : Int) = 0 := by omega
          simp [h0, this]
      have := om_yes (callD tb WN (n + 2)) o most K (sS L K) ((mkL L K).map D.int) (rngI 0 K) _ c3 c4 k3 k4 hz hp (inB_of (by omega) (by omega)) (by rw [Int.toNat_natCast]) _ (asI_int _) rfl (om_lc (n + 1) s most K (by omega) c4)
      rw [hv]
      exact ⟨_, this, _, _, okc_sh, okc_sh, rfl⟩)
  subst e2
  rw [← rngI_eq, Nat.zero_add] at e1
  obtain ⟨ns, xs, eo⟩ := isys_ty s
  have h1 := c_chk (n + 1) ns xs
  rw [← eo] at h1
  have h2 := c_within n (most : Int) 0 2000
  rw [decide_eq_true (by omega), decide_eq_true (by omega)] at h2
  rw [u12]
  have hT : ((most : Int) + 1).toNat = most + 1 := by omega
  exact om_run (callD tb WN (n + 2)) o most ((most : Int) + 1) _ (rngI 0 (most + 1)) c3 c4 rfl h1 h2 (inB_of (by omega) (by omega)) (by rw [hT]) e1
end Law

namespace Law
open PySem PySem.Spec PyProof.Rows L2 L3
/-! ### the law's own marks -/
def lme (B : List D) (most : Int) (F : List D) (c3 c4 : Cell) : En := [some (.sh, .lst B), some (.sh, .int most), some (.own, .lst F), c3, c4, none]
theorem lm_item (C : CR) (B : List D) (most K x r v : Int) (F : List D) (c4 : Cell) (b1 b2 : Bool) (hr : K - x = r) (h1 : atI B x = some (.bl b1)) (h2 : atI B r = some (.bl b2)) (hx : atI F x = some (.int v)) :
    toB (evE C (mdOf tb) L22_1c [some (.sh, .lst B), some (.sh, .int most), some (.own, .lst F), some (.sh, .int K), c4, some (.sh, .int x)]) = .ok (b1 && b2) [some (.sh, .lst B), some (.sh, .int most), some (.own, .lst F), some (.sh, .int K), c4, some (.sh, .int x)] ∧
    evE C (mdOf tb) L22_1 [some (.sh, .lst B), some (.sh, .int most), some (.own, .lst F), some (.sh, .int K), c4, some (.sh, .int x)] = .ok (.int v, false) [some (.sh, .lst B), some (.sh, .int most), some (.own, .lst F), some (.sh, .int K), c4, some (.sh, .int x)] := by
  constructor
  · cases b1 <;> simp [L3.evSs, L3.evS.eq_1, L3.evS.eq_2, L3.evS.eq_3, L3.evS.eq_4, L3.evS.eq_5, L3.evS.eq_6, L3.evS.eq_9, L3.evS.eq_10, L3.evS.eq_11, L3.evS.eq_12, L3.evS.eq_13, L3.evS.eq_14, L3.evE.eq_1, L3.evE.eq_2, L3.evE.eq_3, L3.evE.eq_4, L3.evE.eq_5, L3.evE.eq_6, L3.evE.eq_7, L3.evE.eq_8, L3.evE.eq_9, L3.evE.eq_10, L3.evE.eq_11, L3.evE.eq_12, L3.evE.eq_13, L3.evE.eq_14, L3.evE.eq_15, L3.evE.eq_16, L3.evE.eq_18, L3.evE.eq_19, L3.evE.eq_20, L3.evE.eq_21, L3.evA, L3.evP, Law.evS_whlR, Law.evS_frR, Law.evE_lcR, Law.evS_frpR, Law.evE_lcpR, L3.walkP, L3.walkD, L3.unfzO, L3.unfz, Law.frR_nil, Law.frR_cons, Law.lcR_nil, Law.lcR_cons, L3.argOf, L3.Rs.bind, L3.opFin, L3.avDs, L3.avD, L3.vDs, L3.Op.keeps, L3.Op.run, L3.i1, L3.i2, L3.a1, L3.a2, L3.l1, L3.gd, L3.oB, L3.oI, L3.toB, L3.toI, L3.rdVar, L3.mvVar, L3.stVar, L3.stR, L3.stTg, L3.stVars, L3.stVarsO, L3.passA, L3.backA, L3.doCall, L3.cellOf, L3.start3, Law.outs1, Law.outs2, Law.outs3, Law.outs4, L3.resOf, L3.runFn, L3.keepB, L3.Ow.isB, L3.Ow.isOwn, L3.isTys, L3.isTy, L3.itFin, L3.ItK.run, L3.kRng1, L3.kRng2, L3.kSeq, L3.seqD, L3.seqD2, L3.kEnm, L3.enmD, Law.fit_of, Law.fit3, L3.noEr, L3.slFin, L3.slice3, L3.shE, L3.Tg.slots, L3.wipeE, L3.restE, L3.asB, Law.sz0, Law.sz1, Law.sz2, L3.rAdd3, L3.rLen3, L3.rLt3, L3.rIdx3, Law.at30, Law.at31, Law.at32, Law.at20, Law.at21, L3.isNone, Law.eqD_int, Law.md0, Law.md1, Law.md2, Law.md3, Law.md4, Law.md5, Law.md6, Law.md7, Law.md8, Law.md9, Law.md10, Law.md11, Law.md12, Law.md13, Law.md14, Law.md15, Law.md16, Law.md17, Law.md18, Law.md19, Law.md20, Law.md21, Law.md22, Law.md23, Law.md24, Law.md25, L22_1c, hr, h1, h2]
  · simp [L3.evSs, L3.evS.eq_1, L3.evS.eq_2, L3.evS.eq_3, L3.evS.eq_4, L3.evS.eq_5, L3.evS.eq_6, L3.evS.eq_9, L3.evS.eq_10, L3.evS.eq_11, L3.evS.eq_12, L3.evS.eq_13, L3.evS.eq_14, L3.evE.eq_1, L3.evE.eq_2, L3.evE.eq_3, L3.evE.eq_4, L3.evE.eq_5, L3.evE.eq_6, L3.evE.eq_7, L3.evE.eq_8, L3.evE.eq_9, L3.evE.eq_10, L3.evE.eq_11, L3.evE.eq_12, L3.evE.eq_13, L3.evE.eq_14, L3.evE.eq_15, L3.evE.eq_16, L3.evE.eq_18, L3.evE.eq_19, L3.evE.eq_20, L3.evE.eq_21, L3.evA, L3.evP, Law.evS_whlR, Law.evS_frR, Law.evE_lcR, Law.evS_frpR, Law.evE_lcpR, L3.walkP, L3.walkD, L3.unfzO, L3.unfz, Law.frR_nil, Law.frR_cons, Law.lcR_nil, Law.lcR_cons, L3.argOf, L3.Rs.bind, L3.opFin, L3.avDs, L3.avD, L3.vDs, L3.Op.keeps, L3.Op.run, L3.i1, L3.i2, L3.a1, L3.a2, L3.l1, L3.gd, L3.oB, L3.oI, L3.toB, L3.toI, L3.rdVar, L3.mvVar, L3.stVar, L3.stR, L3.stTg, L3.stVars, L3.stVarsO, L3.passA, L3.backA, L3.doCall, L3.cellOf, L3.start3, Law.outs1, Law.outs2, Law.outs3, Law.outs4, L3.resOf, L3.runFn, L3.keepB, L3.Ow.isB, L3.Ow.isOwn, L3.isTys, L3.isTy, L3.itFin, L3.ItK.run, L3.kRng1, L3.kRng2, L3.kSeq, L3.seqD, L3.seqD2, L3.kEnm, L3.enmD, Law.fit_of, Law.fit3, L3.noEr, L3.slFin, L3.slice3, L3.shE, L3.Tg.slots, L3.wipeE, L3.restE, L3.asB, Law.sz0, Law.sz1, Law.sz2, L3.rAdd3, L3.rLen3, L3.rLt3, L3.rIdx3, Law.at30, Law.at31, Law.at32, Law.at20, Law.at21, L3.isNone, Law.eqD_int, Law.md0, Law.md1, Law.md2, Law.md3, Law.md4, Law.md5, Law.md6, Law.md7, Law.md8, Law.md9, Law.md10, Law.md11, Law.md12, Law.md13, Law.md14, Law.md15, Law.md16, Law.md17, Law.md18, Law.md19, Law.md20, Law.md21, Law.md22, Law.md23, Law.md24, Law.md25, L22_1, hx]
theorem lm_lc (C : CR) (L : List Nat) (N : Nat) (most : Int) (K : Nat) (hK : K < N) (hN : N ≤ 3000) (c4 : Cell) :
    lcR C (mdOf tb) [5] (.nm 5) L22_1c L22_1 (rngI 0 K) [] (lme (bitsL L N) most ((mkL L K).map D.int) (some (.sh, .int (K : Int))) c4) = .ok ((((List.range K).filter fun x => gb L x && gb L (K - x)).map (mv L)).map D.int) (lme (bitsL L N) most ((mkL L K).map D.int) (some (.sh, .int (K : Int))) c4) := by
  have := lcR_fil (C := C) (md := mdOf tb) (vs := [5]) (tg := .nm 5) (c := L22_1c) (e := L22_1) (en0 := lme (bitsL L N) most ((mkL L K).map D.int) (some (.sh, .int (K : Int))) c4) (selD fun x => gb L x && gb L (K - x)) (valD (mv L)) (rngI 0 K) [] (by
    intro d hd
    obtain ⟨X, rfl, k0, k1⟩ := mem_rngI hd
    obtain ⟨x, rfl⟩ : ∃ x : Nat, X = x := ⟨X.toNat, by omega⟩
    have e : (K : Int) - (x : Int) = ((K - x : Nat) : Int) := by omega
    have h1 : atI (bitsL L N) (x : Int) = some (.bl (gb L x)) := L3.atI_nat (bitsL_get L (by omega))
    have h2 : atI (bitsL L N) ((K - x : Nat) : Int) = some (.bl (gb L (K - x))) := L3.atI_nat (bitsL_get L (by omega))
    have hx : atI ((mkL L K).map D.int) (x : Int) = some (.int (mv L x)) := L3.atI_nat (by rw [List.getElem?_map, mkL_get L (by omega)]; rfl)
    obtain ⟨g1, g2⟩ := lm_item C (bitsL L N) most K x _ _ _ c4 _ _ e h1 h2 hx
    refine ⟨_, rfl, ?_, fun _ => ⟨false, ?_⟩, rfl⟩
    · exact g1
    · exact g2) (by rw [rngI_len]; exact sz_of (by show 0 + K ≤ _; omega))
  rw [List.nil_append, sel_rng] at this
  exact this
theorem lm_turn (C : CR) (B F G X : List D) (most K s : Int) (is : List Int) (b : Bool) (c3 c4 : Cell) (k3 : okc c3) (k4 : okO c4) (hz : F.length < sizeLine) (hb : atI B K = some (.bl b)) (iK : inB K = true) (hG : rngI 0 K.toNat = G) (hX : asI X = some is) (hs : is.sum = s)
    (f : ∀ c4, lcR C (mdOf tb) [5] (.nm 5) L22_1c L22_1 G [] (lme B most F (some (.sh, .int K)) c4) = .ok X (lme B most F (some (.sh, .int K)) c4)) :
    ((stR (stTg (.nm 3) (.int K) false (lme B most F c3 c4))).bind fun _ en => evSs WN C (mdOf tb) F22_0 en) = .ok .nx (lme B most (F ++ [.int (if b then 0 - s else 0)]) (some (.sh, .int K)) (some (.own, .lst X))) := by
  have f0 := f none
  simp only [lme] at f
  cases b <;> rcases k3 with rfl | ⟨_, rfl⟩ <;> rcases k4 with rfl | ⟨_, rfl⟩ | ⟨_, rfl⟩ <;> simp [L3.evSs, L3.evS.eq_1, L3.evS.eq_2, L3.evS.eq_3, L3.evS.eq_4, L3.evS.eq_5, L3.evS.eq_6, L3.evS.eq_9, L3.evS.eq_10, L3.evS.eq_11, L3.evS.eq_12, L3.evS.eq_13, L3.evS.eq_14, L3.evE.eq_1, L3.evE.eq_2, L3.evE.eq_3, L3.evE.eq_4, L3.evE.eq_5, L3.evE.eq_6, L3.evE.eq_7, L3.evE.eq_8, L3.evE.eq_9, L3.evE.eq_10, L3.evE.eq_11, L3.evE.eq_12, L3.evE.eq_13, L3.evE.eq_14, L3.evE.eq_15, L3.evE.eq_16, L3.evE.eq_18, L3.evE.eq_19, L3.evE.eq_20, L3.evE.eq_21, L3.evA, L3.evP, Law.evS_whlR, Law.evS_frR, Law.evE_lcR, Law.evS_frpR, Law.evE_lcpR, L3.walkP, L3.walkD, L3.unfzO, L3.unfz, L3.argOf, L3.Rs.bind, L3.opFin, L3.avDs, L3.avD, L3.vDs, L3.Op.keeps, L3.Op.run, L3.i1, L3.i2, L3.a1, L3.a2, L3.l1, L3.gd, L3.oB, L3.oI, L3.toB, L3.toI, L3.rdVar, L3.mvVar, L3.stVar, L3.stR, L3.stTg, L3.stVars, L3.stVarsO, L3.passA, L3.backA, L3.doCall, L3.cellOf, L3.start3, Law.outs1, Law.outs2, Law.outs3, Law.outs4, L3.resOf, L3.runFn, L3.keepB, L3.Ow.isB, L3.Ow.isOwn, L3.isTys, L3.isTy, L3.itFin, L3.ItK.run, L3.kRng1, L3.kRng2, L3.kSeq, L3.seqD, L3.seqD2, L3.kEnm, L3.enmD, Law.fit_of, Law.fit3, L3.noEr, L3.slFin, L3.slice3, L3.shE, L3.Tg.slots, L3.wipeE, L3.restE, L3.asB, Law.sz0, Law.sz1, Law.sz2, L3.rAdd3, L3.rLen3, L3.rLt3, L3.rIdx3, Law.at30, Law.at31, Law.at32, Law.at20, Law.at21, L3.isNone, Law.eqD_int, Law.md0, Law.md1, Law.md2, Law.md3, Law.md4, Law.md5, Law.md6, Law.md7, Law.md8, Law.md9, Law.md10, Law.md11, Law.md12, Law.md13, Law.md14, Law.md15, Law.md16, Law.md17, Law.md18, Law.md19, Law.md20, Law.md21, Law.md22, Law.md23, Law.md24, Law.md25, F22_0, lme, f, iK, hG, hX, hs, hb, mtFin, mtAt, mtPre, Mt.run, hz]
theorem lm_run (C : CR) (B F G : List D) (most T : Int) (c3 c4 : Cell) (hT : most + 1 = T) (it2 : ∀ en : En, itFin .rng2 [.v (.int 1), .v (.int T)] en = .ok G en)
    (f : frR WN C (mdOf tb) (.nm 3) F22_0 G (lme B most [.int 1] none none) = .ok .nx (lme B most F c3 c4)) :
    runFn WN C (mdOf tb) fn__law_marks [(false, .lst B), (false, .int most)] = .ok (.lst F) true [none, none] := by
  have s0 : Ps WN C (mdOf tb) [some (.sh, .lst B), some (.sh, .int most), none, none, none, none] (.asg (.nm 2) (.op .lst (.cons (.cst (.int 1)) .nil))) (lme B most [.int 1] none none) := by
    unfold Ps
    simp [L3.evSs, L3.evS.eq_1, L3.evS.eq_2, L3.evS.eq_3, L3.evS.eq_4, L3.evS.eq_5, L3.evS.eq_6, L3.evS.eq_9, L3.evS.eq_10, L3.evS.eq_11, L3.evS.eq_12, L3.evS.eq_13, L3.evS.eq_14, L3.evE.eq_1, L3.evE.eq_2, L3.evE.eq_3, L3.evE.eq_4, L3.evE.eq_5, L3.evE.eq_6, L3.evE.eq_7, L3.evE.eq_8, L3.evE.eq_9, L3.evE.eq_10, L3.evE.eq_11, L3.evE.eq_12, L3.evE.eq_13, L3.evE.eq_14, L3.evE.eq_15, L3.evE.eq_16, L3.evE.eq_18, L3.evE.eq_19, L3.evE.eq_20, L3.evE.eq_21, L3.evA, L3.evP, Law.evS_whlR, Law.evS_frR, Law.evE_lcR, Law.evS_frpR, Law.evE_lcpR, L3.walkP, L3.walkD, L3.unfzO, L3.unfz, Law.frR_nil, Law.frR_cons, Law.lcR_nil, Law.lcR_cons, L3.argOf, L3.Rs.bind, L3.opFin, L3.avDs, L3.avD, L3.vDs, L3.Op.keeps, L3.Op.run, L3.i1, L3.i2, L3.a1, L3.a2, L3.l1, L3.gd, L3.oB, L3.oI, L3.toB, L3.toI, L3.rdVar, L3.mvVar, L3.stVar, L3.stR, L3.stTg, L3.stVars, L3.stVarsO, L3.passA, L3.backA, L3.doCall, L3.cellOf, L3.start3, Law.outs1, Law.outs2, Law.outs3, Law.outs4, L3.resOf, L3.runFn, L3.keepB, L3.Ow.isB, L3.Ow.isOwn, L3.isTys, L3.isTy, L3.itFin, L3.ItK.run, L3.kRng1, L3.kRng2, L3.kSeq, L3.seqD, L3.seqD2, L3.kEnm, L3.enmD, Law.fit_of, Law.fit3, L3.noEr, L3.slFin, L3.slice3, L3.shE, L3.Tg.slots, L3.wipeE, L3.restE, L3.asB, Law.sz0, Law.sz1, Law.sz2, L3.rAdd3, L3.rLen3, L3.rLt3, L3.rIdx3, Law.at30, Law.at31, Law.at32, Law.at20, Law.at21, L3.isNone, Law.eqD_int, Law.md0, Law.md1, Law.md2, Law.md3, Law.md4, Law.md5, Law.md6, Law.md7, Law.md8, Law.md9, Law.md10, Law.md11, Law.md12, Law.md13, Law.md14, Law.md15, Law.md16, Law.md17, Law.md18, Law.md19, Law.md20, Law.md21, Law.md22, Law.md23, Law.md24, Law.md25, lme]
  have s1 : Ps WN C (mdOf tb) (lme B most [.int 1] none none) (.fr (.nm 3) .rng2 (.cons (.cst (.int 1)) (.cons (.op .add (.cons (.pk 1) (.cons (.cst (.int 1)) .nil))) .nil)) F22_0) (lme B most F c3 c4) := by
    have ea : evA C (mdOf tb) (.cons (.cst (.int 1)) (.cons (.op .add (.cons (.pk 1) (.cons (.cst (.int 1)) .nil))) .nil)) (lme B most [.int 1] none none) = .ok [.v (.int 1), .v (.int T)] (lme B most [.int 1] none none) := by simp [L3.evSs, L3.evS.eq_1, L3.evS.eq_2, L3.evS.eq_3, L3.evS.eq_4, L3.evS.eq_5, L3.evS.eq_6, L3.evS.eq_9, L3.evS.eq_10, L3.evS.eq_11, L3.evS.eq_12, L3.evS.eq_13, L3.evS.eq_14, L3.evE.eq_1, L3.evE.eq_2, L3.evE.eq_3, L3.evE.eq_4, L3.evE.eq_5, L3.evE.eq_6, L3.evE.eq_7, L3.evE.eq_8, L3.evE.eq_9, L3.evE.eq_10, L3.evE.eq_11, L3.evE.eq_12, L3.evE.eq_13, L3.evE.eq_14, L3.evE.eq_15, L3.evE.eq_16, L3.evE.eq_18, L3.evE.eq_19, L3.evE.eq_20, L3.evE.eq_21, L3.evA, L3.evP, Law.evS_whlR, Law.evS_frR, Law.evE_lcR, Law.evS_frpR, Law.evE_lcpR, L3.walkP, L3.walkD, L3.unfzO, L3.unfz, Law.frR_nil, Law.frR_cons, Law.lcR_nil, Law.lcR_cons, L3.argOf, L3.Rs.bind, L3.opFin, L3.avDs, L3.avD, L3.vDs, L3.Op.keeps, L3.Op.run, L3.i1, L3.i2, L3.a1, L3.a2, L3.l1, L3.gd, L3.oB, L3.oI, L3.toB, L3.toI, L3.rdVar, L3.mvVar, L3.stVar, L3.stR, L3.stTg, L3.stVars, L3.stVarsO, L3.passA, L3.backA, L3.doCall, L3.cellOf, L3.start3, Law.outs1, Law.outs2, Law.outs3, Law.outs4, L3.resOf, L3.runFn, L3.keepB, L3.Ow.isB, L3.Ow.isOwn, L3.isTys, L3.isTy, L3.itFin, L3.ItK.run, L3.kRng1, L3.kRng2, L3.kSeq, L3.seqD, L3.seqD2, L3.kEnm, L3.enmD, Law.fit_of, Law.fit3, L3.noEr, L3.slFin, L3.slice3, L3.shE, L3.Tg.slots, L3.wipeE, L3.restE, L3.asB, Law.sz0, Law.sz1, Law.sz2, L3.rAdd3, L3.rLen3, L3.rLt3, L3.rIdx3, Law.at30, Law.at31, Law.at32, Law.at20, Law.at21, L3.isNone, Law.eqD_int, Law.md0, Law.md1, Law.md2, Law.md3, Law.md4, Law.md5, Law.md6, Law.md7, Law.md8, Law.md9, Law.md10, Law.md11, Law.md12, Law.md13, Law.md14, Law.md15, Law.md16, Law.md17, Law.md18, Law.md19, Law.md20, Law.md21, Law.md22, Law.md23, Law.md24, Law.md25, lme, hT]
    unfold Ps
    rw [evS_frR, ea]
    simp only [Rs.bind, it2]
    exact f
  have s2 : evE C (mdOf tb) (.mv 2) (lme B most F c3 c4) = .ok (.lst F, true) [some (.sh, .lst B), some (.sh, .int most), none, c3, c4, none] := by simp [L3.evSs, L3.evS.eq_1, L3.evS.eq_2, L3.evS.eq_3, L3.evS.eq_4, L3.evS.eq_5, L3.evS.eq_6, L3.evS.eq_9, L3.evS.eq_10, L3.evS.eq_11, L3.evS.eq_12, L3.evS.eq_13, L3.evS.eq_14, L3.evE.eq_1, L3.evE.eq_2, L3.evE.eq_3, L3.evE.eq_4, L3.evE.eq_5, L3.evE.eq_6, L3.evE.eq_7, L3.evE.eq_8, L3.evE.eq_9, L3.evE.eq_10, L3.evE.eq_11, L3.evE.eq_12, L3.evE.eq_13, L3.evE.eq_14, L3.evE.eq_15, L3.evE.eq_16, L3.evE.eq_18, L3.evE.eq_19, L3.evE.eq_20, L3.evE.eq_21, L3.evA, L3.evP, Law.evS_whlR, Law.evS_frR, Law.evE_lcR, Law.evS_frpR, Law.evE_lcpR, L3.walkP, L3.walkD, L3.unfzO, L3.unfz, Law.frR_nil, Law.frR_cons, Law.lcR_nil, Law.lcR_cons, L3.argOf, L3.Rs.bind, L3.opFin, L3.avDs, L3.avD, L3.vDs, L3.Op.keeps, L3.Op.run, L3.i1, L3.i2, L3.a1, L3.a2, L3.l1, L3.gd, L3.oB, L3.oI, L3.toB, L3.toI, L3.rdVar, L3.mvVar, L3.stVar, L3.stR, L3.stTg, L3.stVars, L3.stVarsO, L3.passA, L3.backA, L3.doCall, L3.cellOf, L3.start3, Law.outs1, Law.outs2, Law.outs3, Law.outs4, L3.resOf, L3.runFn, L3.keepB, L3.Ow.isB, L3.Ow.isOwn, L3.isTys, L3.isTy, L3.itFin, L3.ItK.run, L3.kRng1, L3.kRng2, L3.kSeq, L3.seqD, L3.seqD2, L3.kEnm, L3.enmD, Law.fit_of, Law.fit3, L3.noEr, L3.slFin, L3.slice3, L3.shE, L3.Tg.slots, L3.wipeE, L3.restE, L3.asB, Law.sz0, Law.sz1, Law.sz2, L3.rAdd3, L3.rLen3, L3.rLt3, L3.rIdx3, Law.at30, Law.at31, Law.at32, Law.at20, Law.at21, L3.isNone, Law.eqD_int, Law.md0, Law.md1, Law.md2, Law.md3, Law.md4, Law.md5, Law.md6, Law.md7, Law.md8, Law.md9, Law.md10, Law.md11, Law.md12, Law.md13, Law.md14, Law.md15, Law.md16, Law.md17, Law.md18, Law.md19, Law.md20, Law.md21, Law.md22, Law.md23, Law.md24, Law.md25, lme]
  have e5 := (ss_step s0).trans ((ss_step s1).trans (ss_ret (ss := .nil) s2))
  exact (congrArg (resOf 2) e5).trans rfl
theorem rng1_eq (top : Nat) : (List.range' 1 top).map (fun (k : Nat) => D.int (k : Int)) = rngI 1 top := by
  unfold rngI
  rw [List.range'_eq_map_range, List.map_map]
  refine List.map_congr_left fun k _ => ?_
  show D.int ((1 + k : Nat) : Int) = _
  push_cast
  rfl
theorem it_1T (top : Nat) (h : top ≤ 1000000) : ∀ en : En, itFin .rng2 [.v (.int 1), .v (.int ((top : Int) + 1))] en = .ok (rngI 1 top) en := fun en => by
  have i2 : inB ((top : Int) + 1) = true := inB_of (by omega) (by omega)
  have hr0 : ((top : Int) + 1 - 1).toNat = top := by omega
  rw [it_rng2 (by decide) i2, hr0]
theorem c_marks (n : Nat) (L : List Nat) (most : Nat) (hm : most ≤ 2000) : callD tb WN (n + 1) 22 [(false, .lst (bitsL L (most + 1))), (false, .int (most : Int))] = .ok (.lst ((mkL L (most + 1)).map D.int)) true [none, none] := by
  obtain ⟨en', e1, c3, c4, k3, k4, e2⟩ := frR_rng (w := WN) (C := callD tb WN n) (md := mdOf tb) (tg := .nm 3) (b := F22_0)
    (fun K en => ∃ c3 c4, okc c3 ∧ okO c4 ∧ en = lme (bitsL L (most + 1)) most ((mkL L K).map D.int) c3 c4) most 1 (lme (bitsL L (most + 1)) most [.int 1] none none) ⟨_, _, .inl rfl, .inl rfl, by
      have : (mkL L 1).map D.int = [.int 1] := by show [D.int (mv L 0)] = _; rw [mv_zero]
      rw [this]⟩ (by
    intro K hK1 hK en ⟨c3, c4, k3, k4, e⟩
    subst e
    have hz : ((mkL L K).map D.int).length < sizeLine := by rw [List.length_map, mkL_len]; exact lt_szM (by omega)
    have hb : atI (bitsL L (most + 1)) (K : Int) = some (.bl (gb L K)) := L3.atI_nat (bitsL_get L (by omega))
    have hv : mv L K = if gb L K then 0 - sS L K else 0 := by
      rw [mv_eq]
      have : K ≠ 0 := by omega
      cases gb L K <;> simp [this]
    have hsum : (((List.range K).filter fun x => gb L x && gb L (K - x)).map (mv L)).sum = sS L K := sS_both L K _
    have := lm_turn (callD tb WN n) (bitsL L (most + 1)) ((mkL L K).map D.int) (rngI 0 K) _ most K (sS L K) _ (gb L K) c3 c4 k3 k4 hz hb (inB_of (by omega) (by omega)) (by rw [Int.toNat_natCast]) (asI_int _) hsum (fun c4 => lm_lc (callD tb WN n) L (most + 1) most K (by omega) (by omega) c4)
    rw [mkL_succ, List.map_append, hv]
    exact ⟨_, this, _, _, okc_sh, okO_ow, rfl⟩)
  subst e2
  rw [rng1_eq, show 1 + most = most + 1 by omega] at e1
  rw [u22]
  exact lm_run (callD tb WN n) _ _ (rngI 1 most) most ((most : Int) + 1) c3 c4 rfl (it_1T most (by omega)) e1
end Law

namespace Law
open PySem PySem.Spec PyProof.Rows L2 L3
/-! ### two coins: the closed form -/
def indS (β p B : Nat) (k : Nat) : Int := sm (fun j => if k = β + j * p then 1 else 0) B
theorem conv_ind (L : List Nat) (N β p B : Nat) : sm (fun x => if gb L (N - x) then indS β p B x else 0) (N + 1) = sm (fun j => g01 L (N - β - j * p)) B := by
  have e1 : sm (fun x => if gb L (N - x) then indS β p B x else 0) (N + 1) = sm (fun x => sm (fun j => if x = β + j * p then (if gb L (N - (β + j * p)) then 1 else 0) else 0) B) (N + 1) := sm_congr _ fun x _ => by
    cases h : gb L (N - x) with
    | true =>
      show indS β p B x = _
      refine sm_congr _ fun j _ => ?_
      by_cases z : x = β + j * p
      · rw [if_pos z, if_pos z, ← z, h]; rfl
      · rw [if_neg z, if_neg z]
    | false =>
      show (0 : Int) = _
      refine (sm_zero B).symm.trans (sm_congr _ fun j _ => ?_)
      by_cases z : x = β + j * p
      · rw [if_pos z, ← z, h]; rfl
      · rw [if_neg z]
  rw [e1, sm_swap]
  refine sm_congr _ fun j _ => ?_
  rw [sm_one]
  unfold g01 gi
  by_cases h : β + j * p < N + 1
  · rw [if_pos h]
    have hc : (N : Int) - (β : Int) - (j : Int) * (p : Int) = ((N - (β + j * p) : Nat) : Int) := by
      rw [← Int.natCast_mul]; omega
    rw [hc, decide_eq_true (by omega), Int.toNat_natCast, Bool.true_and]
  · rw [if_neg h]
    have hc : ¬ 0 ≤ (N : Int) - (β : Int) - (j : Int) * (p : Int) := by
      rw [← Int.natCast_mul]; omega
    rw [decide_eq_false hc]; rfl
def twoF (a b B k : Nat) : Int := indS 0 (a * b) B k - indS a (a * b) B k - indS b (a * b) B k + indS (a + b) (a * b) B k
theorem two_marks {a b : Nat} (ha : 0 < a) (hb : 0 < b) (hg : Nat.gcd a b = 1) (most : Nat) : ∀ N, N ≤ most → twoF a b (most + 1) N = mv [a, b] N := by
  have hp : 0 < a * b := Nat.mul_pos ha hb
  refine conv_uniq (twoF a b (most + 1)) ?_ most fun N hN hle => ?_
  · have z : ∀ β, 0 < β → indS β (a * b) (most + 1) 0 = 0 := fun β h => by
      unfold indS
      exact (sm_congr _ fun j _ => if_neg (by omega)).trans (sm_zero (most + 1))
    have o : indS 0 (a * b) (most + 1) 0 = 1 := by
      unfold indS
      rw [sm_first]
      have : sm (fun k => if 0 = 0 + (k + 1) * (a * b) then (1 : Int) else 0) most = 0 := by
        exact (sm_congr _ fun j _ => if_neg (by rw [Nat.succ_mul]; omega)).trans (sm_zero most)
      rw [this]; simp
    unfold twoF
    rw [o, z a ha, z b hb, z (a + b) (by omega)]; rfl
  · rw [sm_list]
    have e : sm (fun x => if gb [a, b] (N - x) then twoF a b (most + 1) x else 0) (N + 1) =
        sm (fun x => (if gb [a, b] (N - x) then indS 0 (a * b) (most + 1) x else 0) - (if gb [a, b] (N - x) then indS a (a * b) (most + 1) x else 0) - (if gb [a, b] (N - x) then indS b (a * b) (most + 1) x else 0) + (if gb [a, b] (N - x) then indS (a + b) (a * b) (most + 1) x else 0)) (N + 1) := sm_congr _ fun x _ => by
      cases gb [a, b] (N - x) <;> rfl
    rw [e, sm_add, sm_sub, sm_sub, conv_ind, conv_ind, conv_ind, conv_ind, ← sm_sub, ← sm_sub, ← sm_add]
    have h := gam_sum ha hb hg (most + 1) (N : Int)
    have e2 : sm (fun k => g01 [a, b] ((N : Int) - ((0 : Nat) : Int) - (k : Int) * ((a * b : Nat) : Int)) - g01 [a, b] ((N : Int) - (a : Int) - (k : Int) * ((a * b : Nat) : Int)) - g01 [a, b] ((N : Int) - (b : Int) - (k : Int) * ((a * b : Nat) : Int)) + g01 [a, b] ((N : Int) - ((a + b : Nat) : Int) - (k : Int) * ((a * b : Nat) : Int))) (most + 1) =
        sm (fun j => g01 [a, b] ((N : Int) - j * (a * b)) - g01 [a, b] ((N : Int) - a - j * (a * b)) - g01 [a, b] ((N : Int) - b - j * (a * b)) + g01 [a, b] ((N : Int) - (a + b) - j * (a * b))) (most + 1) := sm_congr _ fun j _ => by
      push_cast
      rw [Int.sub_zero]
    rw [e2, h, if_neg (by omega)]
    have : (N : Int) ≠ ((most + 1 : Nat) : Int) * ((a : Int) * b) := by
      rw [← Int.natCast_mul, ← Int.natCast_mul]
      have := Nat.mul_le_mul_left (most + 1) hp
      omega
    rw [if_neg this]; rfl
/-- a row of numbers -/
def rowI (f : Nat → Int) (N : Nat) : List D := (List.range N).map fun k => D.int (f k)
theorem rowI_len (f : Nat → Int) (N : Nat) : (rowI f N).length = N := by simp [rowI]
theorem rowI_get {f : Nat → Int} {N k : Nat} (h : k < N) : (rowI f N)[k]? = some (.int (f k)) := by unfold rowI; rw [List.getElem?_map, List.getElem?_range h]; rfl
theorem rowI_set {f : Nat → Int} {N K : Nat} {s : Int} (h : K < N) : (rowI f N).set K (.int (f K + s)) = rowI (fun k => f k + if k = K then s else 0) N := by
  apply List.ext_getElem?
  intro i
  by_cases hi : K = i
  · subst hi
    rw [List.getElem?_set_self (by rw [rowI_len]; exact h), rowI_get h, if_pos rfl]
  · rw [List.getElem?_set_ne hi]
    by_cases h2 : i < N
    · rw [rowI_get h2, rowI_get h2, if_neg (fun z => hi z.symm), Int.add_zero]
    · rw [List.getElem?_eq_none (by rw [rowI_len]; omega), List.getElem?_eq_none (by rw [rowI_len]; omega)]
theorem rowI_congr {f g : Nat → Int} {N : Nat} (h : ∀ k, k < N → f k = g k) : rowI f N = rowI g N := by
  unfold rowI
  exact List.map_congr_left fun k hk => by rw [h k (List.mem_range.mp hk)]
def twe (a b most : Int) (F : List D) (c4 c5 c6 : Cell) : En := [some (.sh, .int a), some (.sh, .int b), some (.sh, .int most), some (.own, .lst F), c4, c5, c6]
theorem tw_set (C : CR) (a b most β s K v : Int) (k : Nat) (F : List D) (c6 : Cell) (k6 : okc c6) (hx : atI F K = some (.int v)) (hk : ixN F.length K = some k) :
    ((stR (stTg (.nm 6) (.int K) false (twe a b most F (some (.sh, .int β)) (some (.sh, .int s)) c6))).bind fun _ en => evSs WN C (mdOf tb) F23_1 en) = .ok .nx (twe a b most (F.set k (.int (v + s))) (some (.sh, .int β)) (some (.sh, .int s)) (some (.sh, .int K))) := by
  rcases k6 with rfl | ⟨_, rfl⟩ <;> simp [L3.evSs, L3.evS.eq_1, L3.evS.eq_2, L3.evS.eq_3, L3.evS.eq_4, L3.evS.eq_5, L3.evS.eq_6, L3.evS.eq_9, L3.evS.eq_10, L3.evS.eq_11, L3.evS.eq_12, L3.evS.eq_13, L3.evS.eq_14, L3.evE.eq_1, L3.evE.eq_2, L3.evE.eq_3, L3.evE.eq_4, L3.evE.eq_5, L3.evE.eq_6, L3.evE.eq_7, L3.evE.eq_8, L3.evE.eq_9, L3.evE.eq_10, L3.evE.eq_11, L3.evE.eq_12, L3.evE.eq_13, L3.evE.eq_14, L3.evE.eq_15, L3.evE.eq_16, L3.evE.eq_18, L3.evE.eq_19, L3.evE.eq_20, L3.evE.eq_21, L3.evA, L3.evP, Law.evS_whlR, Law.evS_frR, Law.evE_lcR, Law.evS_frpR, Law.evE_lcpR, L3.walkP, L3.walkD, L3.unfzO, L3.unfz, Law.frR_nil, Law.frR_cons, Law.lcR_nil, Law.lcR_cons, L3.argOf, L3.Rs.bind, L3.opFin, L3.avDs, L3.avD, L3.vDs, L3.Op.keeps, L3.Op.run, L3.i1, L3.i2, L3.a1, L3.a2, L3.l1, L3.gd, L3.oB, L3.oI, L3.toB, L3.toI, L3.rdVar, L3.mvVar, L3.stVar, L3.stR, L3.stTg, L3.stVars, L3.stVarsO, L3.passA, L3.backA, L3.doCall, L3.cellOf, L3.start3, Law.outs1, Law.outs2, Law.outs3, Law.outs4, L3.resOf, L3.runFn, L3.keepB, L3.Ow.isB, L3.Ow.isOwn, L3.isTys, L3.isTy, L3.itFin, L3.ItK.run, L3.kRng1, L3.kRng2, L3.kSeq, L3.seqD, L3.seqD2, L3.kEnm, L3.enmD, Law.fit_of, Law.fit3, L3.noEr, L3.slFin, L3.slice3, L3.shE, L3.Tg.slots, L3.wipeE, L3.restE, L3.asB, Law.sz0, Law.sz1, Law.sz2, L3.rAdd3, L3.rLen3, L3.rLt3, L3.rIdx3, Law.at30, Law.at31, Law.at32, Law.at20, Law.at21, L3.isNone, Law.eqD_int, Law.md0, Law.md1, Law.md2, Law.md3, Law.md4, Law.md5, Law.md6, Law.md7, Law.md8, Law.md9, Law.md10, Law.md11, Law.md12, Law.md13, Law.md14, Law.md15, Law.md16, Law.md17, Law.md18, Law.md19, Law.md20, Law.md21, Law.md22, Law.md23, Law.md24, Law.md25, F23_1, twe, hx, hk, mtFin, mtAt, mtPre, Mt.run]
theorem tw_inner (C : CR) (a b most β s : Int) (N : Nat) : ∀ (xs : List Nat) (f : Nat → Int) (c6 : Cell), okc c6 → (∀ x ∈ xs, x < N) → ∃ c6', okc c6' ∧ frR WN C (mdOf tb) (.nm 6) F23_1 (intN xs) (twe a b most (rowI f N) (some (.sh, .int β)) (some (.sh, .int s)) c6) = .ok .nx (twe a b most (rowI (fun k => f k + s * (xs.count k : Nat)) N) (some (.sh, .int β)) (some (.sh, .int s)) c6')
  | [], f, c6, k6, _ => ⟨c6, k6, by
    show frR _ _ _ _ _ [] _ = _
    rw [frR_nil]
    have : rowI (fun k => f k + s * (([] : List Nat).count k : Nat)) N = rowI f N := rowI_congr fun k _ => by simp
    rw [this]⟩
  | x :: xs, f, c6, k6, hx => by
    have hxN := hx x List.mem_cons_self
    have e := tw_set C a b most β s (x : Int) (f x) x (rowI f N) c6 k6 (L3.atI_nat (rowI_get hxN)) (ixN_nat (by rw [rowI_len]; exact hxN))
    rw [rowI_set hxN] at e
    obtain ⟨c6', k6', g⟩ := tw_inner C a b most β s N xs (fun k => f k + if k = x then s else 0) (some (.sh, .int (x : Int))) okc_sh fun y hy => hx y (List.mem_cons_of_mem _ hy)
    refine ⟨c6', k6', ?_⟩
    show frR _ _ _ _ _ (.int (x : Int) :: intN xs) _ = _
    rw [frR_cons, e]
    show frR _ _ _ _ _ (intN xs) _ = _
    rw [g]
    have : rowI (fun k => (f k + if k = x then s else 0) + s * (xs.count k : Nat)) N = rowI (fun k => f k + s * ((x :: xs).count k : Nat)) N := rowI_congr fun k _ => by
      rw [List.count_cons]
      by_cases h : k = x
      · subst h
        simp only [if_pos rfl, beq_self_eq_true]
        push_cast
        rw [Int.mul_add]; omega
      · have h2 : (x == k) = false := by
          have : ¬ x = k := fun z => h z.symm
          simpa using this
        rw [if_neg h, h2]
        simp
    rw [this]
end Law

namespace Law
open PySem PySem.Spec PyProof.Rows L2 L3
@[reducible] def B23_0 : S := (.asg (.nm 3) (.op .rep (.cons (.op .lst (.cons (.cst (.int 0)) .nil)) (.cons (.op .add (.cons (.pk 2) (.cons (.cst (.int 1)) .nil))) .nil))))
@[reducible] def T23 : E := (.op .tup (.cons (.op .tup (.cons (.cst (.int 0)) (.cons (.cst (.int 1)) .nil))) (.cons (.op .tup (.cons (.var 0) (.cons (.op .neg (.cons (.cst (.int 1)) .nil)) .nil))) (.cons (.op .tup (.cons (.var 1) (.cons (.op .neg (.cons (.cst (.int 1)) .nil)) .nil))) (.cons (.op .tup (.cons (.op .add (.cons (.pk 0) (.cons (.pk 1) .nil))) (.cons (.cst (.int 1)) .nil))) .nil)))))
@[reducible] def B23_1 : S := (.fr (.tp [4, 5]) .seq (.cons T23 .nil) F23_0)
theorem size_up {a b c : Int} (hc : 0 < c) (n : Nat) (h : ∀ j : Nat, j < n ↔ a + j * c < b) : (Builtin.Range.rangeSize a b c).toNat = n := by
  unfold Builtin.Range.rangeSize
  rw [if_pos hc]
  by_cases hab : a < b
  · rw [if_pos hab]
    have h0 := (h 0).mpr (by simpa using hab)
    have h1 := (h (n - 1)).mp (by omega)
    have h2 : ¬ (a + (n : Int) * c < b) := fun z => Nat.lt_irrefl n ((h n).mpr z)
    have e1 : ((n - 1 : Nat) : Int) = (n : Int) - 1 := by omega
    rw [e1, Int.sub_mul] at h1
    have : (b - a - 1) / c = (n : Int) - 1 := by
      apply Int.le_antisymm
      · have : (b - a - 1) / c < n := by
          rw [Int.ediv_lt_iff_lt_mul hc]; omega
        omega
      · rw [Int.le_ediv_iff_mul_le hc, Int.sub_mul]; omega
    rw [this]; omega
  · rw [if_neg hab]
    have : n = 0 := by
      apply Classical.byContradiction
      intro z
      exact hab (by simpa using (h 0).mp (by omega))
    rw [this]; rfl
/-- how many turns -/
def cntR (β T p : Nat) : Nat := if β < T then (T - β - 1) / p + 1 else 0
theorem cntR_lt {β T p : Nat} (hp : 0 < p) (j : Nat) : j < cntR β T p ↔ (β : Int) + j * p < (T : Int) := by
  rw [← Int.natCast_mul]
  unfold cntR
  by_cases h : β < T
  · rw [if_pos h]
    have : j ≤ (T - β - 1) / p ↔ j * p ≤ T - β - 1 := Nat.le_div_iff_mul_le hp
    omega
  · rw [if_neg h]
    omega
theorem rngC_eq (β T p : Nat) (hp : 0 < p) : rngC (β : Int) (p : Int) (Builtin.Range.rangeSize (β : Int) (T : Int) (p : Int)).toNat = intN ((List.range (cntR β T p)).map fun j => β + j * p) := by
  rw [size_up (by omega) (cntR β T p) (cntR_lt hp)]
  unfold rngC intN
  rw [List.map_map]
  refine List.map_congr_left fun j _ => ?_
  show D.int ((β : Int) + (j : Int) * (p : Int)) = D.int ((β + j * p : Nat) : Int)
  push_cast
  rfl
theorem rg_ok (β T p : Nat) (hp : 0 < p) (h1 : β < 100000) (h2 : T < 100000) (h3 : p < 100000) : rgOk (β : Int) (T : Int) (p : Int) = true := by
  unfold rgOk
  have a1 : decide ((p : Int) ≠ 0 ∧ (p : Int).natAbs < 1073741824) = true := decide_eq_true ⟨by omega, by omega⟩
  have rs : 0 ≤ Builtin.Range.rangeSize (β : Int) (T : Int) (p : Int) ∧ Builtin.Range.rangeSize (β : Int) (T : Int) (p : Int) ≤ 100000 := by
    unfold Builtin.Range.rangeSize
    rw [if_pos (by omega)]
    split
    · have h4 : 0 ≤ ((T : Int) - β - 1) / p := Int.ediv_nonneg (by omega) (by omega)
      have h5 : ((T : Int) - β - 1) / p ≤ (T : Int) - β - 1 := Int.ediv_le_self _ (by omega)
      omega
    · omega
  have fl : ∀ x : Int, -1000000 ≤ x → x ≤ 1000000 → Builtin.Range.rangeFitsLong x = true := fun x h h' => by
    unfold Builtin.Range.rangeFitsLong
    first
      | exact decide_eq_true ⟨by omega, by omega⟩
      | (simp; omega)
  have a2 : Builtin.Range.small (β : Int) (T : Int) (p : Int) = true := by
    unfold Builtin.Range.small
    rw [fl _ (by omega) (by omega), fl _ (by omega) (by omega), fl _ (by omega) (by omega), fl _ (by omega) (by omega), if_pos (by omega), fl _ (by omega) (by omega)]
    simp
  have a3 : decide (0 ≤ Builtin.Range.rangeSize (β : Int) (T : Int) (p : Int)) = true := decide_eq_true rs.1
  rw [a1, a2, a3]; rfl
/-- one row of turns -/
theorem tw_body (C : CR) (a b most β s T p : Int) (F F' G : List D) (c4 c5 c6 c6' : Cell) (k4 : okc c4) (k5 : okc c5) (hT : most + 1 = T) (hp : a * b = p) (m : mulOk a b = true) (ok : rgOk β T p = true) (hG : rngC β p (Builtin.Range.rangeSize β T p).toNat = G)
    (f : frR WN C (mdOf tb) (.nm 6) F23_1 G (twe a b most F (some (.sh, .int β)) (some (.sh, .int s)) c6) = .ok .nx (twe a b most F' (some (.sh, .int β)) (some (.sh, .int s)) c6')) :
    ((stR (stTg (.tp [4, 5]) (.tup [.int β, .int s]) false (twe a b most F c4 c5 c6))).bind fun _ en => evSs WN C (mdOf tb) F23_0 en) = .ok .nx (twe a b most F' (some (.sh, .int β)) (some (.sh, .int s)) c6') := by
  have e1 : stTg (.tp [4, 5]) (.tup [.int β, .int s]) false (twe a b most F c4 c5 c6) = some (twe a b most F (some (.sh, .int β)) (some (.sh, .int s)) c6) := by
    rcases k4 with rfl | ⟨_, rfl⟩ <;> rcases k5 with rfl | ⟨_, rfl⟩ <;> rfl
  rw [e1]
  have ea : evA C (mdOf tb) (.cons (.var 4) (.cons (.op .add (.cons (.pk 2) (.cons (.cst (.int 1)) .nil))) (.cons (.op .mul (.cons (.pk 0) (.cons (.pk 1) .nil))) .nil))) (twe a b most F (some (.sh, .int β)) (some (.sh, .int s)) c6) = .ok [.v (.int β), .v (.int T), .v (.int p)] (twe a b most F (some (.sh, .int β)) (some (.sh, .int s)) c6) := by
    simp [L3.evSs, L3.evS.eq_1, L3.evS.eq_2, L3.evS.eq_3, L3.evS.eq_4, L3.evS.eq_5, L3.evS.eq_6, L3.evS.eq_9, L3.evS.eq_10, L3.evS.eq_11, L3.evS.eq_12, L3.evS.eq_13, L3.evS.eq_14, L3.evE.eq_1, L3.evE.eq_2, L3.evE.eq_3, L3.evE.eq_4, L3.evE.eq_5, L3.evE.eq_6, L3.evE.eq_7, L3.evE.eq_8, L3.evE.eq_9, L3.evE.eq_10, L3.evE.eq_11, L3.evE.eq_12, L3.evE.eq_13, L3.evE.eq_14, L3.evE.eq_15, L3.evE.eq_16, L3.evE.eq_18, L3.evE.eq_19, L3.evE.eq_20, L3.evE.eq_21, L3.evA, L3.evP, Law.evS_whlR, Law.evS_frR, Law.evE_lcR, Law.evS_frpR, Law.evE_lcpR, L3.walkP, L3.walkD, L3.unfzO, L3.unfz, Law.frR_nil, Law.frR_cons, Law.lcR_nil, Law.lcR_cons, L3.argOf, L3.Rs.bind, L3.opFin, L3.avDs, L3.avD, L3.vDs, L3.Op.keeps, L3.Op.run, L3.i1, L3.i2, L3.a1, L3.a2, L3.l1, L3.gd, L3.oB, L3.oI, L3.toB, L3.toI, L3.rdVar, L3.mvVar, L3.stVar, L3.stR, L3.stTg, L3.stVars, L3.stVarsO, L3.passA, L3.backA, L3.doCall, L3.cellOf, L3.start3, Law.outs1, Law.outs2, Law.outs3, Law.outs4, L3.resOf, L3.runFn, L3.keepB, L3.Ow.isB, L3.Ow.isOwn, L3.isTys, L3.isTy, L3.itFin, L3.ItK.run, L3.kRng1, L3.kRng2, L3.kSeq, L3.seqD, L3.seqD2, L3.kEnm, L3.enmD, Law.fit_of, Law.fit3, L3.noEr, L3.slFin, L3.slice3, L3.shE, L3.Tg.slots, L3.wipeE, L3.restE, L3.asB, Law.sz0, Law.sz1, Law.sz2, L3.rAdd3, L3.rLen3, L3.rLt3, L3.rIdx3, Law.at30, Law.at31, Law.at32, Law.at20, Law.at21, L3.isNone, Law.eqD_int, Law.md0, Law.md1, Law.md2, Law.md3, Law.md4, Law.md5, Law.md6, Law.md7, Law.md8, Law.md9, Law.md10, Law.md11, Law.md12, Law.md13, Law.md14, Law.md15, Law.md16, Law.md17, Law.md18, Law.md19, Law.md20, Law.md21, Law.md22, Law.md23, Law.md24, Law.md25, twe, hT, hp, m]
  have ei : ∀ en : En, itFin .rng3 [.v (.int β), .v (.int T), .v (.int p)] en = .ok G en := fun en => by
    unfold itFin
    simp [vDs, ItK.run, kRng3, ok, hG]
  have s1 : Ps WN C (mdOf tb) (twe a b most F (some (.sh, .int β)) (some (.sh, .int s)) c6) (.fr (.nm 6) .rng3 (.cons (.var 4) (.cons (.op .add (.cons (.pk 2) (.cons (.cst (.int 1)) .nil))) (.cons (.op .mul (.cons (.pk 0) (.cons (.pk 1) .nil))) .nil))) F23_1) (twe a b most F' (some (.sh, .int β)) (some (.sh, .int s)) c6') := by
    unfold Ps
    rw [evS_frR, ea]
    simp only [Rs.bind, ei]
    exact f
  exact (ss_step s1).trans ss_nilU
theorem cnt_ind (β p most k : Nat) (hp : 0 < p) (hk : k < most + 1) : ((((List.range (cntR β (most + 1) p)).map fun j => β + j * p).count k : Nat) : Int) = indS β p (most + 1) k := by
  rw [sm_count]
  unfold indS
  by_cases h : cntR β (most + 1) p ≤ most + 1
  · refine (sm_ext _ _ _ h fun j h1 _ => if_neg fun z => ?_).symm
    have := (cntR_lt (β := β) (T := most + 1) hp j).mpr (by rw [← Int.natCast_mul]; omega)
    omega
  · refine sm_ext _ _ _ (by omega) fun j h1 _ => if_neg fun z => ?_
    have := Nat.mul_le_mul_left j hp
    omega
theorem tw_one (C : CR) (a b most β : Nat) (s : Int) (ha : 0 < a) (hb : 0 < b) (ha2 : a < 200) (hb2 : b < 200) (hm : most < 50000) (hβ : β < 50000) (f : Nat → Int) (c4 c5 c6 : Cell) (k4 : okc c4) (k5 : okc c5) (k6 : okc c6) :
    ∃ c4' c5' c6', okc c4' ∧ okc c5' ∧ okc c6' ∧ ((stR (stTg (.tp [4, 5]) (.tup [.int (β : Int), .int s]) false (twe a b most (rowI f (most + 1)) c4 c5 c6))).bind fun _ en => evSs WN C (mdOf tb) F23_0 en) = .ok .nx (twe a b most (rowI (fun k => f k + s * indS β (a * b) (most + 1) k) (most + 1)) c4' c5' c6') := by
  have hp : 0 < a * b := Nat.mul_pos ha hb
  have hp2 : a * b < 100000 := by
    have := Nat.mul_le_mul (show a ≤ 200 by omega) (show b ≤ 200 by omega)
    omega
  obtain ⟨c6', k6', g⟩ := tw_inner C a b most β s (most + 1) ((List.range (cntR β (most + 1) (a * b))).map fun j => β + j * (a * b)) f c6 k6 (fun x hx => by
    obtain ⟨j, hj, rfl⟩ := List.mem_map.mp hx
    have := (cntR_lt (β := β) (T := most + 1) hp j).mp (List.mem_range.mp hj)
    rw [← Int.natCast_mul] at this
    omega)
  have er : rowI (fun k => f k + s * ((((List.range (cntR β (most + 1) (a * b))).map fun j => β + j * (a * b)).count k : Nat) : Int)) (most + 1) = rowI (fun k => f k + s * indS β (a * b) (most + 1) k) (most + 1) := rowI_congr fun k hk => by rw [cnt_ind β (a * b) most k hp hk]
  rw [er] at g
  refine ⟨some (.sh, .int (β : Int)), some (.sh, .int s), c6', okc_sh, okc_sh, k6', ?_⟩
  have hT : (most : Int) + 1 = ((most + 1 : Nat) : Int) := by omega
  have hpp : (a : Int) * (b : Int) = ((a * b : Nat) : Int) := by push_cast; rfl
  exact tw_body C a b most β s ((most + 1 : Nat) : Int) ((a * b : Nat) : Int) _ _ _ c4 c5 c6 c6' k4 k5 hT hpp (mul_l ⟨by omega, by omega⟩) (rg_ok β (most + 1) (a * b) hp (by omega) (by omega) hp2) (rngC_eq β (most + 1) (a * b) hp) g
theorem tw_run (C : CR) (a b most T : Int) (N : Nat) (F0 F : List D) (c4 c5 c6 : Cell) (hT : most + 1 = T) (h0 : rRep3 [.lst [.int 0], .int T] = some (.lst F0, true)) (ab : Int) (hab : a + b = ab)
    (f : frR WN C (mdOf tb) (.tp [4, 5]) F23_0 [.tup [.int 0, .int 1], .tup [.int a, .int (-1)], .tup [.int b, .int (-1)], .tup [.int ab, .int 1]] (twe a b most F0 none none none) = .ok .nx (twe a b most F c4 c5 c6)) :
    runFn WN C (mdOf tb) fn__law_two [(false, .int a), (false, .int b), (false, .int most)] = .ok (.lst F) true [none, none, none] := by
  have s0 : Ps WN C (mdOf tb) [some (.sh, .int a), some (.sh, .int b), some (.sh, .int most), none, none, none, none] B23_0 (twe a b most F0 none none none) := by
    unfold Ps
    simp [L3.evSs, L3.evS.eq_1, L3.evS.eq_2, L3.evS.eq_3, L3.evS.eq_4, L3.evS.eq_5, L3.evS.eq_6, L3.evS.eq_9, L3.evS.eq_10, L3.evS.eq_11, L3.evS.eq_12, L3.evS.eq_13, L3.evS.eq_14, L3.evE.eq_1, L3.evE.eq_2, L3.evE.eq_3, L3.evE.eq_4, L3.evE.eq_5, L3.evE.eq_6, L3.evE.eq_7, L3.evE.eq_8, L3.evE.eq_9, L3.evE.eq_10, L3.evE.eq_11, L3.evE.eq_12, L3.evE.eq_13, L3.evE.eq_14, L3.evE.eq_15, L3.evE.eq_16, L3.evE.eq_18, L3.evE.eq_19, L3.evE.eq_20, L3.evE.eq_21, L3.evA, L3.evP, Law.evS_whlR, Law.evS_frR, Law.evE_lcR, Law.evS_frpR, Law.evE_lcpR, L3.walkP, L3.walkD, L3.unfzO, L3.unfz, Law.frR_nil, Law.frR_cons, Law.lcR_nil, Law.lcR_cons, L3.argOf, L3.Rs.bind, L3.opFin, L3.avDs, L3.avD, L3.vDs, L3.Op.keeps, L3.Op.run, L3.i1, L3.i2, L3.a1, L3.a2, L3.l1, L3.gd, L3.oB, L3.oI, L3.toB, L3.toI, L3.rdVar, L3.mvVar, L3.stVar, L3.stR, L3.stTg, L3.stVars, L3.stVarsO, L3.passA, L3.backA, L3.doCall, L3.cellOf, L3.start3, Law.outs1, Law.outs2, Law.outs3, Law.outs4, L3.resOf, L3.runFn, L3.keepB, L3.Ow.isB, L3.Ow.isOwn, L3.isTys, L3.isTy, L3.itFin, L3.ItK.run, L3.kRng1, L3.kRng2, L3.kSeq, L3.seqD, L3.seqD2, L3.kEnm, L3.enmD, Law.fit_of, Law.fit3, L3.noEr, L3.slFin, L3.slice3, L3.shE, L3.Tg.slots, L3.wipeE, L3.restE, L3.asB, Law.sz0, Law.sz1, Law.sz2, L3.rAdd3, L3.rLen3, L3.rLt3, L3.rIdx3, Law.at30, Law.at31, Law.at32, Law.at20, Law.at21, L3.isNone, Law.eqD_int, Law.md0, Law.md1, Law.md2, Law.md3, Law.md4, Law.md5, Law.md6, Law.md7, Law.md8, Law.md9, Law.md10, Law.md11, Law.md12, Law.md13, Law.md14, Law.md15, Law.md16, Law.md17, Law.md18, Law.md19, Law.md20, Law.md21, Law.md22, Law.md23, Law.md24, Law.md25, B23_0, twe, hT, h0]
  have s1 : Ps WN C (mdOf tb) (twe a b most F0 none none none) B23_1 (twe a b most F c4 c5 c6) := by
    have ea : evA C (mdOf tb) (.cons T23 .nil) (twe a b most F0 none none none) = .ok [.v (.tup [.tup [.int 0, .int 1], .tup [.int a, .int (-1)], .tup [.int b, .int (-1)], .tup [.int ab, .int 1]])] (twe a b most F0 none none none) := by
      simp [L3.evSs, L3.evS.eq_1, L3.evS.eq_2, L3.evS.eq_3, L3.evS.eq_4, L3.evS.eq_5, L3.evS.eq_6, L3.evS.eq_9, L3.evS.eq_10, L3.evS.eq_11, L3.evS.eq_12, L3.evS.eq_13, L3.evS.eq_14, L3.evE.eq_1, L3.evE.eq_2, L3.evE.eq_3, L3.evE.eq_4, L3.evE.eq_5, L3.evE.eq_6, L3.evE.eq_7, L3.evE.eq_8, L3.evE.eq_9, L3.evE.eq_10, L3.evE.eq_11, L3.evE.eq_12, L3.evE.eq_13, L3.evE.eq_14, L3.evE.eq_15, L3.evE.eq_16, L3.evE.eq_18, L3.evE.eq_19, L3.evE.eq_20, L3.evE.eq_21, L3.evA, L3.evP, Law.evS_whlR, Law.evS_frR, Law.evE_lcR, Law.evS_frpR, Law.evE_lcpR, L3.walkP, L3.walkD, L3.unfzO, L3.unfz, Law.frR_nil, Law.frR_cons, Law.lcR_nil, Law.lcR_cons, L3.argOf, L3.Rs.bind, L3.opFin, L3.avDs, L3.avD, L3.vDs, L3.Op.keeps, L3.Op.run, L3.i1, L3.i2, L3.a1, L3.a2, L3.l1, L3.gd, L3.oB, L3.oI, L3.toB, L3.toI, L3.rdVar, L3.mvVar, L3.stVar, L3.stR, L3.stTg, L3.stVars, L3.stVarsO, L3.passA, L3.backA, L3.doCall, L3.cellOf, L3.start3, Law.outs1, Law.outs2, Law.outs3, Law.outs4, L3.resOf, L3.runFn, L3.keepB, L3.Ow.isB, L3.Ow.isOwn, L3.isTys, L3.isTy, L3.itFin, L3.ItK.run, L3.kRng1, L3.kRng2, L3.kSeq, L3.seqD, L3.seqD2, L3.kEnm, L3.enmD, Law.fit_of, Law.fit3, L3.noEr, L3.slFin, L3.slice3, L3.shE, L3.Tg.slots, L3.wipeE, L3.restE, L3.asB, Law.sz0, Law.sz1, Law.sz2, L3.rAdd3, L3.rLen3, L3.rLt3, L3.rIdx3, Law.at30, Law.at31, Law.at32, Law.at20, Law.at21, L3.isNone, Law.eqD_int, Law.md0, Law.md1, Law.md2, Law.md3, Law.md4, Law.md5, Law.md6, Law.md7, Law.md8, Law.md9, Law.md10, Law.md11, Law.md12, Law.md13, Law.md14, Law.md15, Law.md16, Law.md17, Law.md18, Law.md19, Law.md20, Law.md21, Law.md22, Law.md23, Law.md24, Law.md25, T23, twe, hab]
    have ei : ∀ en : En, itFin .seq [.v (.tup [.tup [.int 0, .int 1], .tup [.int a, .int (-1)], .tup [.int b, .int (-1)], .tup [.int ab, .int 1]])] en = .ok [.tup [.int 0, .int 1], .tup [.int a, .int (-1)], .tup [.int b, .int (-1)], .tup [.int ab, .int 1]] en := fun en => rfl
    unfold Ps
    show evS WN C (mdOf tb) (.fr (.tp [4, 5]) .seq (.cons T23 .nil) F23_0) _ = _
    rw [evS_frR, ea]
    simp only [Rs.bind, ei]
    exact f
  have s2 : evE C (mdOf tb) (.mv 3) (twe a b most F c4 c5 c6) = .ok (.lst F, true) [some (.sh, .int a), some (.sh, .int b), some (.sh, .int most), none, c4, c5, c6] := by simp [L3.evSs, L3.evS.eq_1, L3.evS.eq_2, L3.evS.eq_3, L3.evS.eq_4, L3.evS.eq_5, L3.evS.eq_6, L3.evS.eq_9, L3.evS.eq_10, L3.evS.eq_11, L3.evS.eq_12, L3.evS.eq_13, L3.evS.eq_14, L3.evE.eq_1, L3.evE.eq_2, L3.evE.eq_3, L3.evE.eq_4, L3.evE.eq_5, L3.evE.eq_6, L3.evE.eq_7, L3.evE.eq_8, L3.evE.eq_9, L3.evE.eq_10, L3.evE.eq_11, L3.evE.eq_12, L3.evE.eq_13, L3.evE.eq_14, L3.evE.eq_15, L3.evE.eq_16, L3.evE.eq_18, L3.evE.eq_19, L3.evE.eq_20, L3.evE.eq_21, L3.evA, L3.evP, Law.evS_whlR, Law.evS_frR, Law.evE_lcR, Law.evS_frpR, Law.evE_lcpR, L3.walkP, L3.walkD, L3.unfzO, L3.unfz, Law.frR_nil, Law.frR_cons, Law.lcR_nil, Law.lcR_cons, L3.argOf, L3.Rs.bind, L3.opFin, L3.avDs, L3.avD, L3.vDs, L3.Op.keeps, L3.Op.run, L3.i1, L3.i2, L3.a1, L3.a2, L3.l1, L3.gd, L3.oB, L3.oI, L3.toB, L3.toI, L3.rdVar, L3.mvVar, L3.stVar, L3.stR, L3.stTg, L3.stVars, L3.stVarsO, L3.passA, L3.backA, L3.doCall, L3.cellOf, L3.start3, Law.outs1, Law.outs2, Law.outs3, Law.outs4, L3.resOf, L3.runFn, L3.keepB, L3.Ow.isB, L3.Ow.isOwn, L3.isTys, L3.isTy, L3.itFin, L3.ItK.run, L3.kRng1, L3.kRng2, L3.kSeq, L3.seqD, L3.seqD2, L3.kEnm, L3.enmD, Law.fit_of, Law.fit3, L3.noEr, L3.slFin, L3.slice3, L3.shE, L3.Tg.slots, L3.wipeE, L3.restE, L3.asB, Law.sz0, Law.sz1, Law.sz2, L3.rAdd3, L3.rLen3, L3.rLt3, L3.rIdx3, Law.at30, Law.at31, Law.at32, Law.at20, Law.at21, L3.isNone, Law.eqD_int, Law.md0, Law.md1, Law.md2, Law.md3, Law.md4, Law.md5, Law.md6, Law.md7, Law.md8, Law.md9, Law.md10, Law.md11, Law.md12, Law.md13, Law.md14, Law.md15, Law.md16, Law.md17, Law.md18, Law.md19, Law.md20, Law.md21, Law.md22, Law.md23, Law.md24, Law.md25, twe]
  have e5 := (ss_step s0).trans ((ss_step s1).trans (ss_ret (ss := .nil) s2))
  exact (congrArg (resOf 3) e5).trans rfl
theorem c_two (n : Nat) (a b most : Nat) (ha : 0 < a) (hb : 0 < b) (ha2 : a < 200) (hb2 : b < 200) (hm : most < 20000) (hg : Nat.gcd a b = 1) : callD tb WN (n + 1) 23 [(false, .int (a : Int)), (false, .int (b : Int)), (false, .int (most : Int))] = .ok (.lst ((mkL [a, b] (most + 1)).map D.int)) true [none, none, none] := by
  generalize hC : callD tb WN n = C
  obtain ⟨p4, p5, p6, k4, k5, k6, e1⟩ := tw_one C a b most 0 1 ha hb ha2 hb2 (by omega) (by omega) (fun _ => 0) none none none (.inl rfl) (.inl rfl) (.inl rfl)
  obtain ⟨q4, q5, q6, l4, l5, l6, e2⟩ := tw_one C a b most a (-1) ha hb ha2 hb2 (by omega) (by omega) (fun k => 0 + 1 * indS 0 (a * b) (most + 1) k) p4 p5 p6 k4 k5 k6
  obtain ⟨r4, r5, r6, m4, m5, m6, e3⟩ := tw_one C a b most b (-1) ha hb ha2 hb2 (by omega) (by omega) (fun k => (0 + 1 * indS 0 (a * b) (most + 1) k) + -1 * indS a (a * b) (most + 1) k) q4 q5 q6 l4 l5 l6
  obtain ⟨t4, t5, t6, n4, n5, n6, e4⟩ := tw_one C a b most (a + b) 1 ha hb ha2 hb2 (by omega) (by omega) (fun k => ((0 + 1 * indS 0 (a * b) (most + 1) k) + -1 * indS a (a * b) (most + 1) k) + -1 * indS b (a * b) (most + 1) k) r4 r5 r6 m4 m5 m6
  have er : rowI (fun k => (((0 + 1 * indS 0 (a * b) (most + 1) k) + -1 * indS a (a * b) (most + 1) k) + -1 * indS b (a * b) (most + 1) k) + 1 * indS (a + b) (a * b) (most + 1) k) (most + 1) = (mkL [a, b] (most + 1)).map D.int := by
    rw [mkL_eq]
    unfold rowI
    rw [List.map_map]
    refine List.map_congr_left fun k hk => ?_
    have := two_marks ha hb hg most k (by have := List.mem_range.mp hk; omega)
    show D.int _ = D.int (mv [a, b] k)
    rw [← this]
    unfold twoF
    refine congrArg D.int ?_
    show (((0 + 1 * indS 0 (a * b) (most + 1) k) + -1 * indS a (a * b) (most + 1) k) + -1 * indS b (a * b) (most + 1) k) + 1 * indS (a + b) (a * b) (most + 1) k = _
    omega
  rw [er] at e4
  have e0 : rRep3 [.lst [.int 0], .int ((most : Int) + 1)] = some (.lst (rowI (fun _ => 0) (most + 1)), true) := by
    have ht : ((most : Int) + 1).toNat = most + 1 := by omega
    unfold rRep3
    have g1 : decide (-(2 ^ 63) ≤ (most : Int) + 1 ∧ (most : Int) + 1 < 2 ^ 63) = true := decide_eq_true ⟨by omega, by omega⟩
    have g2 : fit ([D.int 0].length * ((most : Int) + 1).toNat) = true := fit_of (by rw [ht]; simp; omega)
    show gd (decide (-(2 ^ 63) ≤ (most : Int) + 1 ∧ (most : Int) + 1 < 2 ^ 63) && fit ([D.int 0].length * ((most : Int) + 1).toNat)) _ = _
    rw [g1, g2]
    show some (D.lst ((List.replicate ((most : Int) + 1).toNat [D.int 0]).flatten), true) = _
    rw [ht, List.flatten_replicate_singleton]
    have hrow : List.replicate (most + 1) (D.int 0) = rowI (fun _ => 0) (most + 1) := by
      unfold rowI
      rw [List.map_const']
      simp
    rw [hrow]
  rw [u23, hC]
  have e1 : ((stR (stTg (.tp [4, 5]) (.tup [.int 0, .int 1]) false (twe a b most (rowI (fun _ => 0) (most + 1)) none none none))).bind fun _ en => evSs WN C (mdOf tb) F23_0 en) = _ := e1
  refine tw_run C a b most ((most : Int) + 1) (most + 1) _ _ t4 t5 t6 rfl e0 ((a + b : Nat) : Int) (by push_cast; rfl) ?_
  rw [frR_cons, e1]
  show frR _ _ _ _ _ _ _ = _
  rw [frR_cons, e2]
  show frR _ _ _ _ _ _ _ = _
  rw [frR_cons, e3]
  show frR _ _ _ _ _ _ _ = _
  rw [frR_cons, e4]
  show frR _ _ _ _ _ _ _ = _
  rw [frR_nil]
end Law

namespace Law
open PySem PySem.Spec PyProof.Rows L2 L3
/-! ### what is refused -/
theorem c_word_s (n : Nat) : callD tb WN (n + 1) 24 [(false, .thk false (.exc 2 [] []))] = .ok (.str "system") false [none] := by kernel_rfl
theorem c_word_n (n : Nat) : callD tb WN (n + 1) 24 [(false, .thk false (.exc 1 [] []))] = .ok (.str "number") false [none] := by kernel_rfl
def ntS : D → Prop
  | .non => True | .bl _ => True | .int _ => True | .str _ => True | .tup _ => True | .lst _ => True | .dct _ _ => True
  | _ => False
theorem e_sys (n : Nat) {d : D} (b : D) (h : ntS d) : callD tb WN (n + 2) 12 [(false, d), (false, b)] = .er ⟨2, [], []⟩ [none, none] := by
  have e : callD tb WN (n + 1) 10 [(false, d)] = .er ⟨2, [], []⟩ [none] := by
    rw [u10]; unfold fn_check_system
    cases d <;> first | exact h.elim | simp [L3.evSs, L3.evS.eq_1, L3.evS.eq_2, L3.evS.eq_3, L3.evS.eq_4, L3.evS.eq_5, L3.evS.eq_6, L3.evS.eq_9, L3.evS.eq_10, L3.evS.eq_11, L3.evS.eq_12, L3.evS.eq_13, L3.evS.eq_14, L3.evE.eq_1, L3.evE.eq_2, L3.evE.eq_3, L3.evE.eq_4, L3.evE.eq_5, L3.evE.eq_6, L3.evE.eq_7, L3.evE.eq_8, L3.evE.eq_9, L3.evE.eq_10, L3.evE.eq_11, L3.evE.eq_12, L3.evE.eq_13, L3.evE.eq_14, L3.evE.eq_15, L3.evE.eq_16, L3.evE.eq_18, L3.evE.eq_19, L3.evE.eq_20, L3.evE.eq_21, L3.evA, L3.evP, Law.evS_whlR, Law.evS_frR, Law.evE_lcR, Law.evS_frpR, Law.evE_lcpR, L3.walkP, L3.walkD, L3.unfzO, L3.unfz, Law.frR_nil, Law.frR_cons, Law.lcR_nil, Law.lcR_cons, L3.argOf, L3.Rs.bind, L3.opFin, L3.avDs, L3.avD, L3.vDs, L3.Op.keeps, L3.Op.run, L3.i1, L3.i2, L3.a1, L3.a2, L3.l1, L3.gd, L3.oB, L3.oI, L3.toB, L3.toI, L3.rdVar, L3.mvVar, L3.stVar, L3.stR, L3.stTg, L3.stVars, L3.stVarsO, L3.passA, L3.backA, L3.doCall, L3.cellOf, L3.start3, Law.outs1, Law.outs2, Law.outs3, Law.outs4, L3.resOf, L3.runFn, L3.keepB, L3.Ow.isB, L3.Ow.isOwn, L3.isTys, L3.isTy, L3.itFin, L3.ItK.run, L3.kRng1, L3.kRng2, L3.kSeq, L3.seqD, L3.seqD2, L3.kEnm, L3.enmD, Law.fit_of, Law.fit3, L3.noEr, L3.slFin, L3.slice3, L3.shE, L3.Tg.slots, L3.wipeE, L3.restE, L3.asB, Law.sz0, Law.sz1, Law.sz2, L3.rAdd3, L3.rLen3, L3.rLt3, L3.rIdx3, Law.at30, Law.at31, Law.at32, Law.at20, Law.at21, L3.isNone, Law.eqD_int, Law.md0, Law.md1, Law.md2, Law.md3, Law.md4, Law.md5, Law.md6, Law.md7, Law.md8, Law.md9, Law.md10, Law.md11, Law.md12, Law.md13, Law.md14, Law.md15, Law.md16, Law.md17, Law.md18, Law.md19, Law.md20, Law.md21, Law.md22, Law.md23, Law.md24, Law.md25]
  rw [u12]; unfold fn_order_mark
  simp [L3.evSs, L3.evS.eq_1, L3.evS.eq_2, L3.evS.eq_3, L3.evS.eq_4, L3.evS.eq_5, L3.evS.eq_6, L3.evS.eq_9, L3.evS.eq_10, L3.evS.eq_11, L3.evS.eq_12, L3.evS.eq_13, L3.evS.eq_14, L3.evE.eq_1, L3.evE.eq_2, L3.evE.eq_3, L3.evE.eq_4, L3.evE.eq_5, L3.evE.eq_6, L3.evE.eq_7, L3.evE.eq_8, L3.evE.eq_9, L3.evE.eq_10, L3.evE.eq_11, L3.evE.eq_12, L3.evE.eq_13, L3.evE.eq_14, L3.evE.eq_15, L3.evE.eq_16, L3.evE.eq_18, L3.evE.eq_19, L3.evE.eq_20, L3.evE.eq_21, L3.evA, L3.evP, Law.evS_whlR, Law.evS_frR, Law.evE_lcR, Law.evS_frpR, Law.evE_lcpR, L3.walkP, L3.walkD, L3.unfzO, L3.unfz, Law.frR_nil, Law.frR_cons, Law.lcR_nil, Law.lcR_cons, L3.argOf, L3.Rs.bind, L3.opFin, L3.avDs, L3.avD, L3.vDs, L3.Op.keeps, L3.Op.run, L3.i1, L3.i2, L3.a1, L3.a2, L3.l1, L3.gd, L3.oB, L3.oI, L3.toB, L3.toI, L3.rdVar, L3.mvVar, L3.stVar, L3.stR, L3.stTg, L3.stVars, L3.stVarsO, L3.passA, L3.backA, L3.doCall, L3.cellOf, L3.start3, Law.outs1, Law.outs2, Law.outs3, Law.outs4, L3.resOf, L3.runFn, L3.keepB, L3.Ow.isB, L3.Ow.isOwn, L3.isTys, L3.isTy, L3.itFin, L3.ItK.run, L3.kRng1, L3.kRng2, L3.kSeq, L3.seqD, L3.seqD2, L3.kEnm, L3.enmD, Law.fit_of, Law.fit3, L3.noEr, L3.slFin, L3.slice3, L3.shE, L3.Tg.slots, L3.wipeE, L3.restE, L3.asB, Law.sz0, Law.sz1, Law.sz2, L3.rAdd3, L3.rLen3, L3.rLt3, L3.rIdx3, Law.at30, Law.at31, Law.at32, Law.at20, Law.at21, L3.isNone, Law.eqD_int, Law.md0, Law.md1, Law.md2, Law.md3, Law.md4, Law.md5, Law.md6, Law.md7, Law.md8, Law.md9, Law.md10, Law.md11, Law.md12, Law.md13, Law.md14, Law.md15, Law.md16, Law.md17, Law.md18, Law.md19, Law.md20, Law.md21, Law.md22, Law.md23, Law.md24, Law.md25, e]
def menuB : List D := [.int (-1), .int 2001, .bl true, .non, .str "3", .tup [.int 3], .lst [], .int 1000000000000000000000000000000]
theorem bad_within (n : Nat) : ∀ x ∈ menuB, callD tb WN (n + 2) 1 [(false, x), (false, .int 0), (false, .int 2000)] = .ok (.bl false) false [none, none, none] := by
  intro x hx
  simp only [menuB, List.mem_cons, List.not_mem_nil, or_false] at hx
  rcases hx with rfl | rfl | rfl | rfl | rfl | rfl | rfl | rfl <;> kernel_rfl
theorem e_num (n : Nat) (ns : List Str) (xs : List D) {x : D} (hx : x ∈ menuB) : callD tb WN (n + 3) 12 [(false, .obj 4 ns xs), (false, x)] = .er ⟨1, [], []⟩ [none, none] := by
  have e1 := c_chk (n + 1) ns xs
  have e2 := bad_within n x hx
  rw [u12]; unfold fn_order_mark
  simp [L3.evSs, L3.evS.eq_1, L3.evS.eq_2, L3.evS.eq_3, L3.evS.eq_4, L3.evS.eq_5, L3.evS.eq_6, L3.evS.eq_9, L3.evS.eq_10, L3.evS.eq_11, L3.evS.eq_12, L3.evS.eq_13, L3.evS.eq_14, L3.evE.eq_1, L3.evE.eq_2, L3.evE.eq_3, L3.evE.eq_4, L3.evE.eq_5, L3.evE.eq_6, L3.evE.eq_7, L3.evE.eq_8, L3.evE.eq_9, L3.evE.eq_10, L3.evE.eq_11, L3.evE.eq_12, L3.evE.eq_13, L3.evE.eq_14, L3.evE.eq_15, L3.evE.eq_16, L3.evE.eq_18, L3.evE.eq_19, L3.evE.eq_20, L3.evE.eq_21, L3.evA, L3.evP, Law.evS_whlR, Law.evS_frR, Law.evE_lcR, Law.evS_frpR, Law.evE_lcpR, L3.walkP, L3.walkD, L3.unfzO, L3.unfz, Law.frR_nil, Law.frR_cons, Law.lcR_nil, Law.lcR_cons, L3.argOf, L3.Rs.bind, L3.opFin, L3.avDs, L3.avD, L3.vDs, L3.Op.keeps, L3.Op.run, L3.i1, L3.i2, L3.a1, L3.a2, L3.l1, L3.gd, L3.oB, L3.oI, L3.toB, L3.toI, L3.rdVar, L3.mvVar, L3.stVar, L3.stR, L3.stTg, L3.stVars, L3.stVarsO, L3.passA, L3.backA, L3.doCall, L3.cellOf, L3.start3, Law.outs1, Law.outs2, Law.outs3, Law.outs4, L3.resOf, L3.runFn, L3.keepB, L3.Ow.isB, L3.Ow.isOwn, L3.isTys, L3.isTy, L3.itFin, L3.ItK.run, L3.kRng1, L3.kRng2, L3.kSeq, L3.seqD, L3.seqD2, L3.kEnm, L3.enmD, Law.fit_of, Law.fit3, L3.noEr, L3.slFin, L3.slice3, L3.shE, L3.Tg.slots, L3.wipeE, L3.restE, L3.asB, Law.sz0, Law.sz1, Law.sz2, L3.rAdd3, L3.rLen3, L3.rLt3, L3.rIdx3, Law.at30, Law.at31, Law.at32, Law.at20, Law.at21, L3.isNone, Law.eqD_int, Law.md0, Law.md1, Law.md2, Law.md3, Law.md4, Law.md5, Law.md6, Law.md7, Law.md8, Law.md9, Law.md10, Law.md11, Law.md12, Law.md13, Law.md14, Law.md15, Law.md16, Law.md17, Law.md18, Law.md19, Law.md20, Law.md21, Law.md22, Law.md23, Law.md24, Law.md25, e1, e2]
def menuO (d : D) : List D := [.non, .bl true, .bl false, .int (-1), .str "", .str "ann", .lst [], .dct [] [], .tup [.tup []], .tup [.non], .tup [.tup [.int 0, .int 0]], .int 100000000000, d]
theorem menuO_nt {d : D} (h : ntS d) : ∀ x ∈ menuO d, ntS x := by
  intro x hx
  simp only [menuO, List.mem_cons, List.not_mem_nil, or_false] at hx
  rcases hx with rfl | rfl | rfl | rfl | rfl | rfl | rfl | rfl | rfl | rfl | rfl | rfl | rfl <;> first | exact h | trivial
def ode (h d : D) (c2 : Cell) : En := [some (.brw, h), some (.sh, d), c2]
theorem od_turn (n : Nat) {h d : D} (H : Hd h) (hd : ntS d) (k : Int) (c2 : Cell) (k2 : okc c2) : ∃ h' d', Hd h' ∧ ntS d' ∧ ((stR (stTg (.nm 2) (.int k) false (ode h d c2))).bind fun _ en => evSs WN (callD tb WN (n + 1)) (mdOf tb) F17_0 en) = .ok .nx (ode h' d' (some (.sh, .int k))) := by
  obtain ⟨h1, r, H1, r0, r1, e⟩ := draw_sm n 3 H (by decide) (by decide)
  have hr : r = 0 ∨ r = 1 ∨ r = 2 := by omega
  rcases hr with rfl | rfl | rfl
  · exact ⟨h1, .tup [d], H1, trivial, by rcases k2 with rfl | ⟨_, rfl⟩ <;> simp [L3.evSs, L3.evS.eq_1, L3.evS.eq_2, L3.evS.eq_3, L3.evS.eq_4, L3.evS.eq_5, L3.evS.eq_6, L3.evS.eq_9, L3.evS.eq_10, L3.evS.eq_11, L3.evS.eq_12, L3.evS.eq_13, L3.evS.eq_14, L3.evE.eq_1, L3.evE.eq_2, L3.evE.eq_3, L3.evE.eq_4, L3.evE.eq_5, L3.evE.eq_6, L3.evE.eq_7, L3.evE.eq_8, L3.evE.eq_9, L3.evE.eq_10, L3.evE.eq_11, L3.evE.eq_12, L3.evE.eq_13, L3.evE.eq_14, L3.evE.eq_15, L3.evE.eq_16, L3.evE.eq_18, L3.evE.eq_19, L3.evE.eq_20, L3.evE.eq_21, L3.evA, L3.evP, Law.evS_whlR, Law.evS_frR, Law.evE_lcR, Law.evS_frpR, Law.evE_lcpR, L3.walkP, L3.walkD, L3.unfzO, L3.unfz, Law.frR_nil, Law.frR_cons, Law.lcR_nil, Law.lcR_cons, L3.argOf, L3.Rs.bind, L3.opFin, L3.avDs, L3.avD, L3.vDs, L3.Op.keeps, L3.Op.run, L3.i1, L3.i2, L3.a1, L3.a2, L3.l1, L3.gd, L3.oB, L3.oI, L3.toB, L3.toI, L3.rdVar, L3.mvVar, L3.stVar, L3.stR, L3.stTg, L3.stVars, L3.stVarsO, L3.passA, L3.backA, L3.doCall, L3.cellOf, L3.start3, Law.outs1, Law.outs2, Law.outs3, Law.outs4, L3.resOf, L3.runFn, L3.keepB, L3.Ow.isB, L3.Ow.isOwn, L3.isTys, L3.isTy, L3.itFin, L3.ItK.run, L3.kRng1, L3.kRng2, L3.kSeq, L3.seqD, L3.seqD2, L3.kEnm, L3.enmD, Law.fit_of, Law.fit3, L3.noEr, L3.slFin, L3.slice3, L3.shE, L3.Tg.slots, L3.wipeE, L3.restE, L3.asB, Law.sz0, Law.sz1, Law.sz2, L3.rAdd3, L3.rLen3, L3.rLt3, L3.rIdx3, Law.at30, Law.at31, Law.at32, Law.at20, Law.at21, L3.isNone, Law.eqD_int, Law.md0, Law.md1, Law.md2, Law.md3, Law.md4, Law.md5, Law.md6, Law.md7, Law.md8, Law.md9, Law.md10, Law.md11, Law.md12, Law.md13, Law.md14, Law.md15, Law.md16, Law.md17, Law.md18, Law.md19, Law.md20, Law.md21, Law.md22, Law.md23, Law.md24, Law.md25, F17_0, ode, e]⟩
  · exact ⟨h1, .lst [d], H1, trivial, by rcases k2 with rfl | ⟨_, rfl⟩ <;> simp [L3.evSs, L3.evS.eq_1, L3.evS.eq_2, L3.evS.eq_3, L3.evS.eq_4, L3.evS.eq_5, L3.evS.eq_6, L3.evS.eq_9, L3.evS.eq_10, L3.evS.eq_11, L3.evS.eq_12, L3.evS.eq_13, L3.evS.eq_14, L3.evE.eq_1, L3.evE.eq_2, L3.evE.eq_3, L3.evE.eq_4, L3.evE.eq_5, L3.evE.eq_6, L3.evE.eq_7, L3.evE.eq_8, L3.evE.eq_9, L3.evE.eq_10, L3.evE.eq_11, L3.evE.eq_12, L3.evE.eq_13, L3.evE.eq_14, L3.evE.eq_15, L3.evE.eq_16, L3.evE.eq_18, L3.evE.eq_19, L3.evE.eq_20, L3.evE.eq_21, L3.evA, L3.evP, Law.evS_whlR, Law.evS_frR, Law.evE_lcR, Law.evS_frpR, Law.evE_lcpR, L3.walkP, L3.walkD, L3.unfzO, L3.unfz, Law.frR_nil, Law.frR_cons, Law.lcR_nil, Law.lcR_cons, L3.argOf, L3.Rs.bind, L3.opFin, L3.avDs, L3.avD, L3.vDs, L3.Op.keeps, L3.Op.run, L3.i1, L3.i2, L3.a1, L3.a2, L3.l1, L3.gd, L3.oB, L3.oI, L3.toB, L3.toI, L3.rdVar, L3.mvVar, L3.stVar, L3.stR, L3.stTg, L3.stVars, L3.stVarsO, L3.passA, L3.backA, L3.doCall, L3.cellOf, L3.start3, Law.outs1, Law.outs2, Law.outs3, Law.outs4, L3.resOf, L3.runFn, L3.keepB, L3.Ow.isB, L3.Ow.isOwn, L3.isTys, L3.isTy, L3.itFin, L3.ItK.run, L3.kRng1, L3.kRng2, L3.kSeq, L3.seqD, L3.seqD2, L3.kEnm, L3.enmD, Law.fit_of, Law.fit3, L3.noEr, L3.slFin, L3.slice3, L3.shE, L3.Tg.slots, L3.wipeE, L3.restE, L3.asB, Law.sz0, Law.sz1, Law.sz2, L3.rAdd3, L3.rLen3, L3.rLt3, L3.rIdx3, Law.at30, Law.at31, Law.at32, Law.at20, Law.at21, L3.isNone, Law.eqD_int, Law.md0, Law.md1, Law.md2, Law.md3, Law.md4, Law.md5, Law.md6, Law.md7, Law.md8, Law.md9, Law.md10, Law.md11, Law.md12, Law.md13, Law.md14, Law.md15, Law.md16, Law.md17, Law.md18, Law.md19, Law.md20, Law.md21, Law.md22, Law.md23, Law.md24, Law.md25, F17_0, ode, e]⟩
  · exact ⟨h1, .dct [.inl 0] [d], H1, trivial, by rcases k2 with rfl | ⟨_, rfl⟩ <;> simp [L3.evSs, L3.evS.eq_1, L3.evS.eq_2, L3.evS.eq_3, L3.evS.eq_4, L3.evS.eq_5, L3.evS.eq_6, L3.evS.eq_9, L3.evS.eq_10, L3.evS.eq_11, L3.evS.eq_12, L3.evS.eq_13, L3.evS.eq_14, L3.evE.eq_1, L3.evE.eq_2, L3.evE.eq_3, L3.evE.eq_4, L3.evE.eq_5, L3.evE.eq_6, L3.evE.eq_7, L3.evE.eq_8, L3.evE.eq_9, L3.evE.eq_10, L3.evE.eq_11, L3.evE.eq_12, L3.evE.eq_13, L3.evE.eq_14, L3.evE.eq_15, L3.evE.eq_16, L3.evE.eq_18, L3.evE.eq_19, L3.evE.eq_20, L3.evE.eq_21, L3.evA, L3.evP, Law.evS_whlR, Law.evS_frR, Law.evE_lcR, Law.evS_frpR, Law.evE_lcpR, L3.walkP, L3.walkD, L3.unfzO, L3.unfz, Law.frR_nil, Law.frR_cons, Law.lcR_nil, Law.lcR_cons, L3.argOf, L3.Rs.bind, L3.opFin, L3.avDs, L3.avD, L3.vDs, L3.Op.keeps, L3.Op.run, L3.i1, L3.i2, L3.a1, L3.a2, L3.l1, L3.gd, L3.oB, L3.oI, L3.toB, L3.toI, L3.rdVar, L3.mvVar, L3.stVar, L3.stR, L3.stTg, L3.stVars, L3.stVarsO, L3.passA, L3.backA, L3.doCall, L3.cellOf, L3.start3, Law.outs1, Law.outs2, Law.outs3, Law.outs4, L3.resOf, L3.runFn, L3.keepB, L3.Ow.isB, L3.Ow.isOwn, L3.isTys, L3.isTy, L3.itFin, L3.ItK.run, L3.kRng1, L3.kRng2, L3.kSeq, L3.seqD, L3.seqD2, L3.kEnm, L3.enmD, Law.fit_of, Law.fit3, L3.noEr, L3.slFin, L3.slice3, L3.shE, L3.Tg.slots, L3.wipeE, L3.restE, L3.asB, Law.sz0, Law.sz1, Law.sz2, L3.rAdd3, L3.rLen3, L3.rLt3, L3.rIdx3, Law.at30, Law.at31, Law.at32, Law.at20, Law.at21, L3.isNone, Law.eqD_int, Law.md0, Law.md1, Law.md2, Law.md3, Law.md4, Law.md5, Law.md6, Law.md7, Law.md8, Law.md9, Law.md10, Law.md11, Law.md12, Law.md13, Law.md14, Law.md15, Law.md16, Law.md17, Law.md18, Law.md19, Law.md20, Law.md21, Law.md22, Law.md23, Law.md24, Law.md25, F17_0, ode, e]⟩
@[reducible] def B17_0 : S := (.asg (.nm 1) (.cst .non))
@[reducible] def A17 : Es := (.cons (.op .add (.cons (.cst (.int 1)) (.cons (.call 14 (.cons (.pk 0) (.cons (.cst (.int 25)) .nil))) .nil))) .nil)
@[reducible] def B17_1 : S := (.fr (.nm 2) .rng1 A17 F17_0)
@[reducible] def B17_2 : S := (.ret (.call 15 (.cons (.pk 0) (.cons (.op .lst (.cons (.cst .non) (.cons (.cst (.bl true)) (.cons (.cst (.bl false)) (.cons (.op .neg (.cons (.cst (.int 1)) .nil)) (.cons (.cst (.str "")) (.cons (.cst (.str "ann")) (.cons (.op .lst .nil) (.cons (.op .dnew .nil) (.cons (.op .tup (.cons (.op .tup .nil) .nil)) (.cons (.op .tup (.cons (.cst .non) .nil)) (.cons (.op .tup (.cons (.op .tup (.cons (.cst (.int 0)) (.cons (.cst (.int 0)) .nil))) .nil)) (.cons (.op .pow (.cons (.cst (.int 10)) (.cons (.cst (.int 11)) .nil))) (.cons (.var 1) .nil)))))))))))))) .nil))))
theorem od_menu (C : CR) (h h1 d x : D) (c2 : Cell) (e : C 15 [(true, h), (false, .lst (menuO d))] = .ok x false [some (.brw, h1), none]) : evSs WN C (mdOf tb) (.cons B17_2 .nil) (ode h d c2) = .ok (.rt x false) (ode h1 d c2) := by
  have p11 : CPow 10 11 := by decide
  have ft : fit 13 = true := fit_of (by decide)
  simp only [menuO] at e
  simp [L3.evSs, L3.evS.eq_1, L3.evS.eq_2, L3.evS.eq_3, L3.evS.eq_4, L3.evS.eq_5, L3.evS.eq_6, L3.evS.eq_9, L3.evS.eq_10, L3.evS.eq_11, L3.evS.eq_12, L3.evS.eq_13, L3.evS.eq_14, L3.evE.eq_1, L3.evE.eq_2, L3.evE.eq_3, L3.evE.eq_4, L3.evE.eq_5, L3.evE.eq_6, L3.evE.eq_7, L3.evE.eq_8, L3.evE.eq_9, L3.evE.eq_10, L3.evE.eq_11, L3.evE.eq_12, L3.evE.eq_13, L3.evE.eq_14, L3.evE.eq_15, L3.evE.eq_16, L3.evE.eq_18, L3.evE.eq_19, L3.evE.eq_20, L3.evE.eq_21, L3.evA, L3.evP, Law.evS_whlR, Law.evS_frR, Law.evE_lcR, Law.evS_frpR, Law.evE_lcpR, L3.walkP, L3.walkD, L3.unfzO, L3.unfz, Law.frR_nil, Law.frR_cons, Law.lcR_nil, Law.lcR_cons, L3.argOf, L3.Rs.bind, L3.opFin, L3.avDs, L3.avD, L3.vDs, L3.Op.keeps, L3.Op.run, L3.i1, L3.i2, L3.a1, L3.a2, L3.l1, L3.gd, L3.oB, L3.oI, L3.toB, L3.toI, L3.rdVar, L3.mvVar, L3.stVar, L3.stR, L3.stTg, L3.stVars, L3.stVarsO, L3.passA, L3.backA, L3.doCall, L3.cellOf, L3.start3, Law.outs1, Law.outs2, Law.outs3, Law.outs4, L3.resOf, L3.runFn, L3.keepB, L3.Ow.isB, L3.Ow.isOwn, L3.isTys, L3.isTy, L3.itFin, L3.ItK.run, L3.kRng1, L3.kRng2, L3.kSeq, L3.seqD, L3.seqD2, L3.kEnm, L3.enmD, Law.fit_of, Law.fit3, L3.noEr, L3.slFin, L3.slice3, L3.shE, L3.Tg.slots, L3.wipeE, L3.restE, L3.asB, Law.sz0, Law.sz1, Law.sz2, L3.rAdd3, L3.rLen3, L3.rLt3, L3.rIdx3, Law.at30, Law.at31, Law.at32, Law.at20, Law.at21, L3.isNone, Law.eqD_int, Law.md0, Law.md1, Law.md2, Law.md3, Law.md4, Law.md5, Law.md6, Law.md7, Law.md8, Law.md9, Law.md10, Law.md11, Law.md12, Law.md13, Law.md14, Law.md15, Law.md16, Law.md17, Law.md18, Law.md19, Law.md20, Law.md21, Law.md22, Law.md23, Law.md24, Law.md25, B17_2, ode, e, p11, ft]
theorem c_odd (n : Nat) {h : D} (H : Hd h) : ∃ h' d, Hd h' ∧ ntS d ∧ callD tb WN (n + 3) 17 [(true, h)] = .ok d false [some (.brw, h')] := by
  obtain ⟨h1, r, H1, r0, r1, e1⟩ := draw_sm (n + 1) 25 H (by decide) (by decide)
  have s0 : Ps WN (callD tb WN (n + 2)) (mdOf tb) [some (.brw, h), none, none] B17_0 (ode h .non none) := by
    unfold Ps
    simp [L3.evSs, L3.evS.eq_1, L3.evS.eq_2, L3.evS.eq_3, L3.evS.eq_4, L3.evS.eq_5, L3.evS.eq_6, L3.evS.eq_9, L3.evS.eq_10, L3.evS.eq_11, L3.evS.eq_12, L3.evS.eq_13, L3.evS.eq_14, L3.evE.eq_1, L3.evE.eq_2, L3.evE.eq_3, L3.evE.eq_4, L3.evE.eq_5, L3.evE.eq_6, L3.evE.eq_7, L3.evE.eq_8, L3.evE.eq_9, L3.evE.eq_10, L3.evE.eq_11, L3.evE.eq_12, L3.evE.eq_13, L3.evE.eq_14, L3.evE.eq_15, L3.evE.eq_16, L3.evE.eq_18, L3.evE.eq_19, L3.evE.eq_20, L3.evE.eq_21, L3.evA, L3.evP, Law.evS_whlR, Law.evS_frR, Law.evE_lcR, Law.evS_frpR, Law.evE_lcpR, L3.walkP, L3.walkD, L3.unfzO, L3.unfz, Law.frR_nil, Law.frR_cons, Law.lcR_nil, Law.lcR_cons, L3.argOf, L3.Rs.bind, L3.opFin, L3.avDs, L3.avD, L3.vDs, L3.Op.keeps, L3.Op.run, L3.i1, L3.i2, L3.a1, L3.a2, L3.l1, L3.gd, L3.oB, L3.oI, L3.toB, L3.toI, L3.rdVar, L3.mvVar, L3.stVar, L3.stR, L3.stTg, L3.stVars, L3.stVarsO, L3.passA, L3.backA, L3.doCall, L3.cellOf, L3.start3, Law.outs1, Law.outs2, Law.outs3, Law.outs4, L3.resOf, L3.runFn, L3.keepB, L3.Ow.isB, L3.Ow.isOwn, L3.isTys, L3.isTy, L3.itFin, L3.ItK.run, L3.kRng1, L3.kRng2, L3.kSeq, L3.seqD, L3.seqD2, L3.kEnm, L3.enmD, Law.fit_of, Law.fit3, L3.noEr, L3.slFin, L3.slice3, L3.shE, L3.Tg.slots, L3.wipeE, L3.restE, L3.asB, Law.sz0, Law.sz1, Law.sz2, L3.rAdd3, L3.rLen3, L3.rLt3, L3.rIdx3, Law.at30, Law.at31, Law.at32, Law.at20, Law.at21, L3.isNone, Law.eqD_int, Law.md0, Law.md1, Law.md2, Law.md3, Law.md4, Law.md5, Law.md6, Law.md7, Law.md8, Law.md9, Law.md10, Law.md11, Law.md12, Law.md13, Law.md14, Law.md15, Law.md16, Law.md17, Law.md18, Law.md19, Law.md20, Law.md21, Law.md22, Law.md23, Law.md24, Law.md25, ode]
  obtain ⟨en', f, h2, d, c2, H2, hd, k2, e2⟩ := frR_inv (w := WN) (C := callD tb WN (n + 2)) (md := mdOf tb) (tg := .nm 2) (b := F17_0) (fun en => ∃ h d c2, Hd h ∧ ntS d ∧ okc c2 ∧ en = ode h d c2) (rngI 0 (1 + r).toNat) (ode h1 .non none) ⟨h1, .non, none, H1, trivial, .inl rfl, rfl⟩ (by
    intro x hx en ⟨h, d, c2, H, hd, k2, e⟩
    subst e
    obtain ⟨K, rfl, _, _⟩ := mem_rngI hx
    obtain ⟨h', d', H', hd', e⟩ := od_turn (n + 1) H hd K c2 k2
    exact ⟨_, e, h', d', _, H', hd', okc_sh, rfl⟩)
  subst e2
  have s1 : Ps WN (callD tb WN (n + 2)) (mdOf tb) (ode h .non none) B17_1 (ode h2 d c2) := by
    have ea : evA (callD tb WN (n + 2)) (mdOf tb) A17 (ode h .non none) = .ok [.v (.int (1 + r))] (ode h1 .non none) := by simp [L3.evSs, L3.evS.eq_1, L3.evS.eq_2, L3.evS.eq_3, L3.evS.eq_4, L3.evS.eq_5, L3.evS.eq_6, L3.evS.eq_9, L3.evS.eq_10, L3.evS.eq_11, L3.evS.eq_12, L3.evS.eq_13, L3.evS.eq_14, L3.evE.eq_1, L3.evE.eq_2, L3.evE.eq_3, L3.evE.eq_4, L3.evE.eq_5, L3.evE.eq_6, L3.evE.eq_7, L3.evE.eq_8, L3.evE.eq_9, L3.evE.eq_10, L3.evE.eq_11, L3.evE.eq_12, L3.evE.eq_13, L3.evE.eq_14, L3.evE.eq_15, L3.evE.eq_16, L3.evE.eq_18, L3.evE.eq_19, L3.evE.eq_20, L3.evE.eq_21, L3.evA, L3.evP, Law.evS_whlR, Law.evS_frR, Law.evE_lcR, Law.evS_frpR, Law.evE_lcpR, L3.walkP, L3.walkD, L3.unfzO, L3.unfz, Law.frR_nil, Law.frR_cons, Law.lcR_nil, Law.lcR_cons, L3.argOf, L3.Rs.bind, L3.opFin, L3.avDs, L3.avD, L3.vDs, L3.Op.keeps, L3.Op.run, L3.i1, L3.i2, L3.a1, L3.a2, L3.l1, L3.gd, L3.oB, L3.oI, L3.toB, L3.toI, L3.rdVar, L3.mvVar, L3.stVar, L3.stR, L3.stTg, L3.stVars, L3.stVarsO, L3.passA, L3.backA, L3.doCall, L3.cellOf, L3.start3, Law.outs1, Law.outs2, Law.outs3, Law.outs4, L3.resOf, L3.runFn, L3.keepB, L3.Ow.isB, L3.Ow.isOwn, L3.isTys, L3.isTy, L3.itFin, L3.ItK.run, L3.kRng1, L3.kRng2, L3.kSeq, L3.seqD, L3.seqD2, L3.kEnm, L3.enmD, Law.fit_of, Law.fit3, L3.noEr, L3.slFin, L3.slice3, L3.shE, L3.Tg.slots, L3.wipeE, L3.restE, L3.asB, Law.sz0, Law.sz1, Law.sz2, L3.rAdd3, L3.rLen3, L3.rLt3, L3.rIdx3, Law.at30, Law.at31, Law.at32, Law.at20, Law.at21, L3.isNone, Law.eqD_int, Law.md0, Law.md1, Law.md2, Law.md3, Law.md4, Law.md5, Law.md6, Law.md7, Law.md8, Law.md9, Law.md10, Law.md11, Law.md12, Law.md13, Law.md14, Law.md15, Law.md16, Law.md17, Law.md18, Law.md19, Law.md20, Law.md21, Law.md22, Law.md23, Law.md24, Law.md25, ode, e1]
    have ei : ∀ en : En, itFin .rng1 [.v (.int (1 + r))] en = .ok (rngI 0 (1 + r).toNat) en := fun en => it_rng1 (inB_of (by omega) (by omega))
    unfold Ps
    rw [evS_frR, ea]
    simp only [Rs.bind, ei]
    exact f
  obtain ⟨h3, x, H3, hx, e3⟩ := any_of n (xs := menuO d) H2 (by show 0 < 13; decide) (by show 13 < 1073741824; decide)
  refine ⟨h3, x, H3, menuO_nt hd x hx, ?_⟩
  rw [u17]
  have e5 := (ss_step s0).trans ((ss_step s1).trans (od_menu (callD tb WN (n + 2)) h2 h3 d x c2 e3))
  exact (congrArg (resOf 1) e5).trans rfl
/-! ### the same -/
theorem same_int (n : Nat) (i : Int) : callD tb WN (n + 1) 16 [(false, .int i), (false, .int i)] = .ok (.bl true) false [none, none] := by
  have e0 : eqD (.bl false) (.bl false) = some true := by kernel_rfl
  rw [u16]; unfold fn__law_same
  simp [L3.evSs, L3.evS.eq_1, L3.evS.eq_2, L3.evS.eq_3, L3.evS.eq_4, L3.evS.eq_5, L3.evS.eq_6, L3.evS.eq_9, L3.evS.eq_10, L3.evS.eq_11, L3.evS.eq_12, L3.evS.eq_13, L3.evS.eq_14, L3.evE.eq_1, L3.evE.eq_2, L3.evE.eq_3, L3.evE.eq_4, L3.evE.eq_5, L3.evE.eq_6, L3.evE.eq_7, L3.evE.eq_8, L3.evE.eq_9, L3.evE.eq_10, L3.evE.eq_11, L3.evE.eq_12, L3.evE.eq_13, L3.evE.eq_14, L3.evE.eq_15, L3.evE.eq_16, L3.evE.eq_18, L3.evE.eq_19, L3.evE.eq_20, L3.evE.eq_21, L3.evA, L3.evP, Law.evS_whlR, Law.evS_frR, Law.evE_lcR, Law.evS_frpR, Law.evE_lcpR, L3.walkP, L3.walkD, L3.unfzO, L3.unfz, Law.frR_nil, Law.frR_cons, Law.lcR_nil, Law.lcR_cons, L3.argOf, L3.Rs.bind, L3.opFin, L3.avDs, L3.avD, L3.vDs, L3.Op.keeps, L3.Op.run, L3.i1, L3.i2, L3.a1, L3.a2, L3.l1, L3.gd, L3.oB, L3.oI, L3.toB, L3.toI, L3.rdVar, L3.mvVar, L3.stVar, L3.stR, L3.stTg, L3.stVars, L3.stVarsO, L3.passA, L3.backA, L3.doCall, L3.cellOf, L3.start3, Law.outs1, Law.outs2, Law.outs3, Law.outs4, L3.resOf, L3.runFn, L3.keepB, L3.Ow.isB, L3.Ow.isOwn, L3.isTys, L3.isTy, L3.itFin, L3.ItK.run, L3.kRng1, L3.kRng2, L3.kSeq, L3.seqD, L3.seqD2, L3.kEnm, L3.enmD, Law.fit_of, Law.fit3, L3.noEr, L3.slFin, L3.slice3, L3.shE, L3.Tg.slots, L3.wipeE, L3.restE, L3.asB, Law.sz0, Law.sz1, Law.sz2, L3.rAdd3, L3.rLen3, L3.rLt3, L3.rIdx3, Law.at30, Law.at31, Law.at32, Law.at20, Law.at21, L3.isNone, Law.eqD_int, Law.md0, Law.md1, Law.md2, Law.md3, Law.md4, Law.md5, Law.md6, Law.md7, Law.md8, Law.md9, Law.md10, Law.md11, Law.md12, Law.md13, Law.md14, Law.md15, Law.md16, Law.md17, Law.md18, Law.md19, Law.md20, Law.md21, Law.md22, Law.md23, Law.md24, Law.md25, e0]
theorem zip_ints : ∀ L : List Int, zipD (L.map D.int) (L.map D.int) = L.map fun i => .tup [.int i, .int i]
  | [] => rfl
  | a :: L => by
    show D.tup [.int a, .int a] :: zipD (L.map D.int) (L.map D.int) = _
    rw [zip_ints L]; rfl
theorem asB_all : ∀ L : List Int, asB (L.map fun _ => D.bl true) = some (L.map fun _ => true)
  | [] => rfl
  | a :: L => by
    show (match asB (L.map fun _ => D.bl true) with | some r => some (true :: r) | none => none) = _
    rw [asB_all L]; rfl
theorem same_run (C : CR) (X Z Y : List D) (bs : List Bool) (hz : zipD X X = Z) (hY : asB Y = some bs) (hb : bs.all id = true) (f : lcR C (mdOf tb) [2, 3] (.tp [2, 3]) L16_0c L16_0 Z [] [some (.sh, .lst X), some (.sh, .lst X), none, none] = .ok Y [some (.sh, .lst X), some (.sh, .lst X), none, none]) :
    runFn WN C (mdOf tb) fn__law_same [(false, .lst X), (false, .lst X)] = .ok (.bl true) false [none, none] := by
  have e0 : eqD (.bl false) (.bl false) = some true := by kernel_rfl
  unfold fn__law_same
  simp [L3.evSs, L3.evS.eq_1, L3.evS.eq_2, L3.evS.eq_3, L3.evS.eq_4, L3.evS.eq_5, L3.evS.eq_6, L3.evS.eq_9, L3.evS.eq_10, L3.evS.eq_11, L3.evS.eq_12, L3.evS.eq_13, L3.evS.eq_14, L3.evE.eq_1, L3.evE.eq_2, L3.evE.eq_3, L3.evE.eq_4, L3.evE.eq_5, L3.evE.eq_6, L3.evE.eq_7, L3.evE.eq_8, L3.evE.eq_9, L3.evE.eq_10, L3.evE.eq_11, L3.evE.eq_12, L3.evE.eq_13, L3.evE.eq_14, L3.evE.eq_15, L3.evE.eq_16, L3.evE.eq_18, L3.evE.eq_19, L3.evE.eq_20, L3.evE.eq_21, L3.evA, L3.evP, Law.evS_whlR, Law.evS_frR, Law.evE_lcR, Law.evS_frpR, Law.evE_lcpR, L3.walkP, L3.walkD, L3.unfzO, L3.unfz, L3.argOf, L3.Rs.bind, L3.opFin, L3.avDs, L3.avD, L3.vDs, L3.Op.keeps, L3.Op.run, L3.i1, L3.i2, L3.a1, L3.a2, L3.l1, L3.gd, L3.oB, L3.oI, L3.toB, L3.toI, L3.rdVar, L3.mvVar, L3.stVar, L3.stR, L3.stTg, L3.stVars, L3.stVarsO, L3.passA, L3.backA, L3.doCall, L3.cellOf, L3.start3, Law.outs1, Law.outs2, Law.outs3, Law.outs4, L3.resOf, L3.runFn, L3.keepB, L3.Ow.isB, L3.Ow.isOwn, L3.isTys, L3.isTy, L3.itFin, L3.ItK.run, L3.kRng1, L3.kRng2, L3.kSeq, L3.seqD, L3.seqD2, L3.kEnm, L3.enmD, Law.fit_of, Law.fit3, L3.noEr, L3.slFin, L3.slice3, L3.shE, L3.Tg.slots, L3.wipeE, L3.restE, L3.asB, Law.sz0, Law.sz1, Law.sz2, L3.rAdd3, L3.rLen3, L3.rLt3, L3.rIdx3, Law.at30, Law.at31, Law.at32, Law.at20, Law.at21, L3.isNone, Law.eqD_int, Law.md0, Law.md1, Law.md2, Law.md3, Law.md4, Law.md5, Law.md6, Law.md7, Law.md8, Law.md9, Law.md10, Law.md11, Law.md12, Law.md13, Law.md14, Law.md15, Law.md16, Law.md17, Law.md18, Law.md19, Law.md20, Law.md21, Law.md22, Law.md23, Law.md24, Law.md25, kZip, hz, f, hY, hb, e0]
theorem same_ints (n : Nat) (L : List Int) (hl : L.length ≤ 100000) : callD tb WN (n + 2) 16 [(false, .lst (L.map D.int)), (false, .lst (L.map D.int))] = .ok (.bl true) false [none, none] := by
  rw [u16]
  refine same_run (callD tb WN (n + 1)) _ _ (L.map fun _ => D.bl true) _ (zip_ints L) (asB_all L) (by simp) ?_
  have := lcR_map (C := callD tb WN (n + 1)) (md := mdOf tb) (vs := [2, 3]) (tg := .tp [2, 3]) (c := L16_0c) (e := L16_0) (g := fun _ => D.bl true) (en0 := [some (.sh, .lst (L.map D.int)), some (.sh, .lst (L.map D.int)), none, none]) (L.map fun i => D.tup [.int i, .int i]) [] (by
    intro d hd
    obtain ⟨i, _, rfl⟩ := List.mem_map.mp hd
    have e := same_int n i
    let en1 : En := [some (.sh, .lst (L.map D.int)), some (.sh, .lst (L.map D.int)), some (.sh, .int i), some (.sh, .int i)]
    exact ⟨en1, rfl, toB_pe pe_cst, ⟨false, evE_callU (evA_consU (arg_pk (show en1[2]? = some (some (.sh, .int i)) from rfl)) (evA_consU (arg_pk (show en1[3]? = some (some (.sh, .int i)) from rfl)) evA_nilU)) rfl e rfl⟩, rfl⟩) (by rw [List.length_map]; exact sz_of (by show 0 + L.length ≤ _; omega))
  rw [this, List.nil_append, List.map_map]
  rfl
end Law

namespace Law
open PySem PySem.Spec PyProof.Rows L2 L3
theorem stV {en : En} {i : Nat} {c : Cell} (h : en[i]? = some c) (k : okO c) (d : D) (own : Bool) : stVar i d own en = some (en.set i (some (if own then .own else .sh, d))) := by
  unfold stVar
  rw [h]
  rcases k with rfl | ⟨_, rfl⟩ | ⟨_, rfl⟩ <;> rfl
def lv (sc h : D) (c2 c3 c4 c5 c6 c7 c8 c9 c10 c11 c12 c13 : Cell) : En := [some (.sh, sc), some (.own, h), c2, c3, c4, c5, c6, c7, c8, c9, c10, c11, c12, c13, none]
@[reducible] def P0a : E := (.call 15 (.cons (.pk 1) (.cons (.op .add (.cons (.op .rep (.cons (.op .lst (.cons (.call 21 (.cons (.pk 1) (.cons (.cst (.int 2)) (.cons (.cst (.int 12)) (.cons (.cst (.int 4)) .nil))))) .nil)) (.cons (.cst (.int 5)) .nil))) (.cons (.op .lst (.cons (.op .tup (.cons (.cst (.int 1)) .nil)) .nil)) .nil))) .nil)))
@[reducible] def P0b : E := (.call 14 (.cons (.pk 1) (.cons (.cst (.int 101)) .nil)))
@[reducible] def S0 : S := (.par [3, 4] (.cons P0a (.cons P0b .nil)))
@[reducible] def P1 : E := (.op .tup (.cons (.mk 4 8 (.cons (.var 3) .nil)) (.cons (.call 19 (.cons (.pk 3) (.cons (.pk 4) .nil))) .nil)))
@[reducible] def S1 : S := (.asg (.tp [5, 6]) P1)
@[reducible] def P2 : E := (.op .tup (.cons (.call 22 (.cons (.pk 6) (.cons (.pk 4) .nil))) (.cons (.call 12 (.cons (.pk 5) (.cons (.pk 4) .nil))) .nil)))
@[reducible] def S2 : S := (.asg (.tp [7, 8]) P2)
@[reducible] def rf : Ss := (.cons (.ret (.cst (.bl false))) .nil)
@[reducible] def P3 : E := (.call 16 (.cons (.op .lstOf (.cons (.pk 8) .nil)) (.cons (.pk 7) .nil)))
@[reducible] def S3 : S := (.ife (.nt P3) rf .nil)
@[reducible] def S4 : S := (.fr (.nm 9) .rng2 (.cons (.cst (.int 1)) (.cons (.op .add (.cons (.pk 4) (.cons (.cst (.int 1)) .nil))) .nil)) F25_1)
@[reducible] def P5 : E := (.call 23 (.cons (.op .idx (.cons (.pk 3) (.cons (.cst (.int 0)) .nil))) (.cons (.op .idx (.cons (.pk 3) (.cons (.cst (.int 1)) .nil))) (.cons (.pk 4) .nil))))
@[reducible] def S5 : S := (.ife (.and (.op .eq (.cons (.op .len (.cons (.pk 3) .nil)) (.cons (.cst (.int 2)) .nil))) (.op .ne (.cons P5 (.cons (.pk 7) .nil)))) rf .nil)
@[reducible] def P6 : E := (.call 14 (.cons (.pk 1) (.cons (.op .add (.cons (.pk 4) (.cons (.cst (.int 1)) .nil))) .nil)))
@[reducible] def S6 : S := (.asg (.nm 10) P6)
@[reducible] def S7 : S := (.ife (.op .ne (.cons (.op .lstOf (.cons (.call 12 (.cons (.pk 5) (.cons (.pk 10) .nil))) .nil)) (.cons (.slB (.pk 7) (.op .add (.cons (.pk 10) (.cons (.cst (.int 1)) .nil)))) .nil))) rf .nil)
@[reducible] def P8 : E := (.call 15 (.cons (.pk 1) (.cons (.op .lst (.cons (.op .neg (.cons (.cst (.int 1)) .nil)) (.cons (.cst (.int 2001)) (.cons (.cst (.bl true)) (.cons (.cst .non) (.cons (.cst (.str "3")) (.cons (.op .tup (.cons (.cst (.int 3)) .nil)) (.cons (.op .lst .nil) (.cons (.op .pow (.cons (.cst (.int 10)) (.cons (.cst (.int 30)) .nil))) .nil))))))))) .nil)))
@[reducible] def S8 : S := (.asg (.nm 11) P8)
@[reducible] def P9 : E := (.call 15 (.cons (.pk 1) (.cons (.op .lst (.cons (.cst .non) (.cons (.cst (.int 0)) (.cons (.cst (.str "system")) (.cons (.op .lst (.cons (.var 5) .nil)) (.cons (.op .dnew .nil) (.cons (.var 3) (.cons (.call 17 (.cons (.pk 1) .nil)) .nil)))))))) .nil)))
@[reducible] def S9 : S := (.asg (.nm 12) P9)
@[reducible] def P10 : E := (.op .lst (.cons (.lam 24 (.call 12 (.cons (.pk 12) (.cons (.pk 11) .nil)))) .nil))
@[reducible] def S10 : S := (.asg (.nm 13) P10)
@[reducible] def S11 : S := (.ex (.mt .app 13 (.cons (.lam 24 (.call 12 (.cons (.pk 5) (.cons (.pk 11) .nil)))) .nil)))
@[reducible] def S12 : S := (.ife (.op .ne (.cons (.pk 13) (.cons (.op .lst (.cons (.cst (.str "system")) (.cons (.cst (.str "number")) .nil))) .nil))) rf .nil)
example : F25_0 = (.cons S0 (.cons S1 (.cons S2 (.cons S3 (.cons S4 (.cons S5 (.cons S6 (.cons S7 (.cons S8 (.cons S9 (.cons S10 (.cons S11 (.cons S12 .nil))))))))))))) := rfl
section
variable (C : CR) (sc h : D) (c2 c3 c4 c5 c6 c7 c8 c9 c10 c11 c12 c13 : Cell)
theorem q0a (h1 h2 t x : D) (e1 : C 21 [(true, h), (false, .int 2), (false, .int 12), (false, .int 4)] = .ok t false [some (.brw, h1), none, none, none]) (e2 : C 15 [(true, h1), (false, .lst [t, t, t, t, t, .tup [.int 1]])] = .ok x false [some (.brw, h2), none]) :
    evE C (mdOf tb) P0a (lv sc h c2 c3 c4 c5 c6 c7 c8 c9 c10 c11 c12 c13) = .ok (x, false) (lv sc h2 c2 c3 c4 c5 c6 c7 c8 c9 c10 c11 c12 c13) := by
  have hr : rRep3 [.lst [t], .int 5] = some (.lst [t, t, t, t, t], true) := by
    unfold rRep3
    have g2 : fit ([t].length * (5 : Int).toNat) = true := fit_of (by show 1 * 5 ≤ 100000; decide)
    show gd (decide (-(2 ^ 63) ≤ (5 : Int) ∧ (5 : Int) < 2 ^ 63) && fit ([t].length * (5 : Int).toNat)) _ = _
    rw [g2]; rfl
  have f6 : fit 6 = true := fit_of (by decide)
  simp [L3.evSs, L3.evS.eq_1, L3.evS.eq_2, L3.evS.eq_3, L3.evS.eq_4, L3.evS.eq_5, L3.evS.eq_6, L3.evS.eq_9, L3.evS.eq_10, L3.evS.eq_11, L3.evS.eq_12, L3.evS.eq_13, L3.evS.eq_14, L3.evE.eq_1, L3.evE.eq_2, L3.evE.eq_3, L3.evE.eq_4, L3.evE.eq_5, L3.evE.eq_6, L3.evE.eq_7, L3.evE.eq_8, L3.evE.eq_9, L3.evE.eq_10, L3.evE.eq_11, L3.evE.eq_12, L3.evE.eq_13, L3.evE.eq_14, L3.evE.eq_15, L3.evE.eq_16, L3.evE.eq_18, L3.evE.eq_19, L3.evE.eq_20, L3.evE.eq_21, L3.evA, L3.evP, Law.evS_whlR, Law.evS_frR, Law.evE_lcR, Law.evS_frpR, Law.evE_lcpR, L3.walkP, L3.walkD, L3.unfzO, L3.unfz, Law.frR_nil, Law.frR_cons, Law.lcR_nil, Law.lcR_cons, L3.argOf, L3.Rs.bind, L3.opFin, L3.avDs, L3.avD, L3.vDs, L3.Op.keeps, L3.Op.run, L3.i1, L3.i2, L3.a1, L3.a2, L3.l1, L3.gd, L3.oB, L3.oI, L3.toB, L3.toI, L3.rdVar, L3.mvVar, L3.stVar, L3.stR, L3.stTg, L3.stVars, L3.stVarsO, L3.passA, L3.backA, L3.doCall, L3.cellOf, L3.start3, Law.outs1, Law.outs2, Law.outs3, Law.outs4, L3.resOf, L3.runFn, L3.keepB, L3.Ow.isB, L3.Ow.isOwn, L3.isTys, L3.isTy, L3.itFin, L3.ItK.run, L3.kRng1, L3.kRng2, L3.kSeq, L3.seqD, L3.seqD2, L3.kEnm, L3.enmD, Law.fit_of, Law.fit3, L3.noEr, L3.slFin, L3.slice3, L3.shE, L3.Tg.slots, L3.wipeE, L3.restE, L3.asB, Law.sz0, Law.sz1, Law.sz2, L3.rAdd3, L3.rLen3, L3.rLt3, L3.rIdx3, Law.at30, Law.at31, Law.at32, Law.at20, Law.at21, L3.isNone, Law.eqD_int, Law.md0, Law.md1, Law.md2, Law.md3, Law.md4, Law.md5, Law.md6, Law.md7, Law.md8, Law.md9, Law.md10, Law.md11, Law.md12, Law.md13, Law.md14, Law.md15, Law.md16, Law.md17, Law.md18, Law.md19, Law.md20, Law.md21, Law.md22, Law.md23, Law.md24, Law.md25, P0a, lv, e1, e2, hr, f6]
theorem q0b (h1 : D) (r : Int) (e1 : C 14 [(true, h), (false, .int 101)] = .ok (.int r) false [some (.brw, h1), none]) :
    evE C (mdOf tb) P0b (lv sc h c2 c3 c4 c5 c6 c7 c8 c9 c10 c11 c12 c13) = .ok (.int r, false) (lv sc h1 c2 c3 c4 c5 c6 c7 c8 c9 c10 c11 c12 c13) := by
  simp [L3.evSs, L3.evS.eq_1, L3.evS.eq_2, L3.evS.eq_3, L3.evS.eq_4, L3.evS.eq_5, L3.evS.eq_6, L3.evS.eq_9, L3.evS.eq_10, L3.evS.eq_11, L3.evS.eq_12, L3.evS.eq_13, L3.evS.eq_14, L3.evE.eq_1, L3.evE.eq_2, L3.evE.eq_3, L3.evE.eq_4, L3.evE.eq_5, L3.evE.eq_6, L3.evE.eq_7, L3.evE.eq_8, L3.evE.eq_9, L3.evE.eq_10, L3.evE.eq_11, L3.evE.eq_12, L3.evE.eq_13, L3.evE.eq_14, L3.evE.eq_15, L3.evE.eq_16, L3.evE.eq_18, L3.evE.eq_19, L3.evE.eq_20, L3.evE.eq_21, L3.evA, L3.evP, Law.evS_whlR, Law.evS_frR, Law.evE_lcR, Law.evS_frpR, Law.evE_lcpR, L3.walkP, L3.walkD, L3.unfzO, L3.unfz, Law.frR_nil, Law.frR_cons, Law.lcR_nil, Law.lcR_cons, L3.argOf, L3.Rs.bind, L3.opFin, L3.avDs, L3.avD, L3.vDs, L3.Op.keeps, L3.Op.run, L3.i1, L3.i2, L3.a1, L3.a2, L3.l1, L3.gd, L3.oB, L3.oI, L3.toB, L3.toI, L3.rdVar, L3.mvVar, L3.stVar, L3.stR, L3.stTg, L3.stVars, L3.stVarsO, L3.passA, L3.backA, L3.doCall, L3.cellOf, L3.start3, Law.outs1, Law.outs2, Law.outs3, Law.outs4, L3.resOf, L3.runFn, L3.keepB, L3.Ow.isB, L3.Ow.isOwn, L3.isTys, L3.isTy, L3.itFin, L3.ItK.run, L3.kRng1, L3.kRng2, L3.kSeq, L3.seqD, L3.seqD2, L3.kEnm, L3.enmD, Law.fit_of, Law.fit3, L3.noEr, L3.slFin, L3.slice3, L3.shE, L3.Tg.slots, L3.wipeE, L3.restE, L3.asB, Law.sz0, Law.sz1, Law.sz2, L3.rAdd3, L3.rLen3, L3.rLt3, L3.rIdx3, Law.at30, Law.at31, Law.at32, Law.at20, Law.at21, L3.isNone, Law.eqD_int, Law.md0, Law.md1, Law.md2, Law.md3, Law.md4, Law.md5, Law.md6, Law.md7, Law.md8, Law.md9, Law.md10, Law.md11, Law.md12, Law.md13, Law.md14, Law.md15, Law.md16, Law.md17, Law.md18, Law.md19, Law.md20, Law.md21, Law.md22, Law.md23, Law.md24, Law.md25, P0b, lv, e1]
theorem q0 (h1 h2 : D) (t : D) (r : Int) (k3 : okO c3) (k4 : okO c4) (e1 : evE C (mdOf tb) P0a (lv sc h c2 c3 c4 c5 c6 c7 c8 c9 c10 c11 c12 c13) = .ok (t, false) (lv sc h1 c2 c3 c4 c5 c6 c7 c8 c9 c10 c11 c12 c13)) (e2 : evE C (mdOf tb) P0b (lv sc h1 c2 c3 c4 c5 c6 c7 c8 c9 c10 c11 c12 c13) = .ok (.int r, false) (lv sc h2 c2 c3 c4 c5 c6 c7 c8 c9 c10 c11 c12 c13)) :
    Ps WN C (mdOf tb) (lv sc h c2 c3 c4 c5 c6 c7 c8 c9 c10 c11 c12 c13) S0 (lv sc h2 c2 (some (.sh, t)) (some (.sh, .int r)) c5 c6 c7 c8 c9 c10 c11 c12 c13) := by
  have epv : evP C (mdOf tb) (.cons P0a (.cons P0b .nil)) (lv sc h c2 c3 c4 c5 c6 c7 c8 c9 c10 c11 c12 c13) = .ok [(t, false), (.int r, false)] (lv sc h2 c2 c3 c4 c5 c6 c7 c8 c9 c10 c11 c12 c13) := by
    rw [evP, e1]
    simp only [Rs.bind]
    rw [evP, e2]
    simp only [Rs.bind]
    rw [evP]
  unfold Ps
  rw [evS, epv]
  show (stR (stVarsO [3, 4] [(t, false), (.int r, false)] (lv sc h2 c2 c3 c4 c5 c6 c7 c8 c9 c10 c11 c12 c13))).bind _ = _
  have a3 := stV (en := lv sc h2 c2 c3 c4 c5 c6 c7 c8 c9 c10 c11 c12 c13) (i := 3) rfl k3 t false
  have a4 := stV (en := lv sc h2 c2 (some (.sh, t)) c4 c5 c6 c7 c8 c9 c10 c11 c12 c13) (i := 4) rfl k4 (.int r) false
  unfold stVarsO
  rw [a3]
  show (stR (match stVar 4 (.int r) false (lv sc h2 c2 (some (.sh, t)) c4 c5 c6 c7 c8 c9 c10 c11 c12 c13) with | some en => stVarsO [] [] en | none => none)).bind _ = _
  rw [a4]
  rfl
theorem stVs2 {en : En} {i j : Nat} {c d : Cell} {x y : D} (hi : en[i]? = some c) (k : okO c) (hij : i ≠ j) (hj : en[j]? = some d) (l : okO d) : stVars [i, j] [x, y] en = some ((en.set i (some (.sh, x))).set j (some (.sh, y))) := by
  have a := stV hi k x false
  have b := stV (en := en.set i (some (.sh, x))) (i := j) (c := d) (by rw [List.getElem?_set_ne hij]; exact hj) l y false
  unfold stVars
  rw [a]
  show (match stVar j y false (en.set i (some (.sh, x))) with | some en => stVars [] [] en | none => none) = _
  rw [b]
  rfl
theorem q1 (o t : D) (B : List D) (most : Int) (k5 : okO c5) (k6 : okO c6) (e1 : C 8 [(true, .obj 4 [] []), (false, t)] = .ok .non false [some (.brw, o), none]) (e2 : C 19 [(false, t), (false, .int most)] = .ok (.lst B) true [none, none]) :
    Ps WN C (mdOf tb) (lv sc h c2 (some (.sh, t)) (some (.sh, .int most)) c5 c6 c7 c8 c9 c10 c11 c12 c13) S1 (lv sc h c2 (some (.sh, t)) (some (.sh, .int most)) (some (.sh, o)) (some (.sh, .lst B)) c7 c8 c9 c10 c11 c12 c13) := by
  have e : evE C (mdOf tb) P1 (lv sc h c2 (some (.sh, t)) (some (.sh, .int most)) c5 c6 c7 c8 c9 c10 c11 c12 c13) = .ok (.tup [o, .lst B], false) (lv sc h c2 (some (.sh, t)) (some (.sh, .int most)) c5 c6 c7 c8 c9 c10 c11 c12 c13) := by
    simp [L3.evSs, L3.evS.eq_1, L3.evS.eq_2, L3.evS.eq_3, L3.evS.eq_4, L3.evS.eq_5, L3.evS.eq_6, L3.evS.eq_9, L3.evS.eq_10, L3.evS.eq_11, L3.evS.eq_12, L3.evS.eq_13, L3.evS.eq_14, L3.evE.eq_1, L3.evE.eq_2, L3.evE.eq_3, L3.evE.eq_4, L3.evE.eq_5, L3.evE.eq_6, L3.evE.eq_7, L3.evE.eq_8, L3.evE.eq_9, L3.evE.eq_10, L3.evE.eq_11, L3.evE.eq_12, L3.evE.eq_13, L3.evE.eq_14, L3.evE.eq_15, L3.evE.eq_16, L3.evE.eq_18, L3.evE.eq_19, L3.evE.eq_20, L3.evE.eq_21, L3.evA, L3.evP, Law.evS_whlR, Law.evS_frR, Law.evE_lcR, Law.evS_frpR, Law.evE_lcpR, L3.walkP, L3.walkD, L3.unfzO, L3.unfz, Law.frR_nil, Law.frR_cons, Law.lcR_nil, Law.lcR_cons, L3.argOf, L3.Rs.bind, L3.opFin, L3.avDs, L3.avD, L3.vDs, L3.Op.keeps, L3.Op.run, L3.i1, L3.i2, L3.a1, L3.a2, L3.l1, L3.gd, L3.oB, L3.oI, L3.toB, L3.toI, L3.rdVar, L3.mvVar, L3.stVar, L3.stR, L3.stTg, L3.stVars, L3.stVarsO, L3.passA, L3.backA, L3.doCall, L3.cellOf, L3.start3, Law.outs1, Law.outs2, Law.outs3, Law.outs4, L3.resOf, L3.runFn, L3.keepB, L3.Ow.isB, L3.Ow.isOwn, L3.isTys, L3.isTy, L3.itFin, L3.ItK.run, L3.kRng1, L3.kRng2, L3.kSeq, L3.seqD, L3.seqD2, L3.kEnm, L3.enmD, Law.fit_of, Law.fit3, L3.noEr, L3.slFin, L3.slice3, L3.shE, L3.Tg.slots, L3.wipeE, L3.restE, L3.asB, Law.sz0, Law.sz1, Law.sz2, L3.rAdd3, L3.rLen3, L3.rLt3, L3.rIdx3, Law.at30, Law.at31, Law.at32, Law.at20, Law.at21, L3.isNone, Law.eqD_int, Law.md0, Law.md1, Law.md2, Law.md3, Law.md4, Law.md5, Law.md6, Law.md7, Law.md8, Law.md9, Law.md10, Law.md11, Law.md12, Law.md13, Law.md14, Law.md15, Law.md16, Law.md17, Law.md18, Law.md19, Law.md20, Law.md21, Law.md22, Law.md23, Law.md24, Law.md25, P1, lv, e1, e2, mkFin]
  exact ps_asgT e (stVs2 (i := 5) (j := 6) rfl k5 (by decide) rfl k6)
theorem q2 (o t : D) (B M N : List D) (most : Int) (k7 : okO c7) (k8 : okO c8) (e1 : C 22 [(false, .lst B), (false, .int most)] = .ok (.lst M) true [none, none]) (e2 : C 12 [(false, o), (false, .int most)] = .ok (.tup N) false [none, none]) :
    Ps WN C (mdOf tb) (lv sc h c2 (some (.sh, t)) (some (.sh, .int most)) (some (.sh, o)) (some (.sh, .lst B)) c7 c8 c9 c10 c11 c12 c13) S2 (lv sc h c2 (some (.sh, t)) (some (.sh, .int most)) (some (.sh, o)) (some (.sh, .lst B)) (some (.sh, .lst M)) (some (.sh, .tup N)) c9 c10 c11 c12 c13) := by
  have e : evE C (mdOf tb) P2 (lv sc h c2 (some (.sh, t)) (some (.sh, .int most)) (some (.sh, o)) (some (.sh, .lst B)) c7 c8 c9 c10 c11 c12 c13) = .ok (.tup [.lst M, .tup N], false) (lv sc h c2 (some (.sh, t)) (some (.sh, .int most)) (some (.sh, o)) (some (.sh, .lst B)) c7 c8 c9 c10 c11 c12 c13) := by
    simp [L3.evSs, L3.evS.eq_1, L3.evS.eq_2, L3.evS.eq_3, L3.evS.eq_4, L3.evS.eq_5, L3.evS.eq_6, L3.evS.eq_9, L3.evS.eq_10, L3.evS.eq_11, L3.evS.eq_12, L3.evS.eq_13, L3.evS.eq_14, L3.evE.eq_1, L3.evE.eq_2, L3.evE.eq_3, L3.evE.eq_4, L3.evE.eq_5, L3.evE.eq_6, L3.evE.eq_7, L3.evE.eq_8, L3.evE.eq_9, L3.evE.eq_10, L3.evE.eq_11, L3.evE.eq_12, L3.evE.eq_13, L3.evE.eq_14, L3.evE.eq_15, L3.evE.eq_16, L3.evE.eq_18, L3.evE.eq_19, L3.evE.eq_20, L3.evE.eq_21, L3.evA, L3.evP, Law.evS_whlR, Law.evS_frR, Law.evE_lcR, Law.evS_frpR, Law.evE_lcpR, L3.walkP, L3.walkD, L3.unfzO, L3.unfz, Law.frR_nil, Law.frR_cons, Law.lcR_nil, Law.lcR_cons, L3.argOf, L3.Rs.bind, L3.opFin, L3.avDs, L3.avD, L3.vDs, L3.Op.keeps, L3.Op.run, L3.i1, L3.i2, L3.a1, L3.a2, L3.l1, L3.gd, L3.oB, L3.oI, L3.toB, L3.toI, L3.rdVar, L3.mvVar, L3.stVar, L3.stR, L3.stTg, L3.stVars, L3.stVarsO, L3.passA, L3.backA, L3.doCall, L3.cellOf, L3.start3, Law.outs1, Law.outs2, Law.outs3, Law.outs4, L3.resOf, L3.runFn, L3.keepB, L3.Ow.isB, L3.Ow.isOwn, L3.isTys, L3.isTy, L3.itFin, L3.ItK.run, L3.kRng1, L3.kRng2, L3.kSeq, L3.seqD, L3.seqD2, L3.kEnm, L3.enmD, Law.fit_of, Law.fit3, L3.noEr, L3.slFin, L3.slice3, L3.shE, L3.Tg.slots, L3.wipeE, L3.restE, L3.asB, Law.sz0, Law.sz1, Law.sz2, L3.rAdd3, L3.rLen3, L3.rLt3, L3.rIdx3, Law.at30, Law.at31, Law.at32, Law.at20, Law.at21, L3.isNone, Law.eqD_int, Law.md0, Law.md1, Law.md2, Law.md3, Law.md4, Law.md5, Law.md6, Law.md7, Law.md8, Law.md9, Law.md10, Law.md11, Law.md12, Law.md13, Law.md14, Law.md15, Law.md16, Law.md17, Law.md18, Law.md19, Law.md20, Law.md21, Law.md22, Law.md23, Law.md24, Law.md25, P2, lv, e1, e2]
  exact ps_asgT e (stVs2 (i := 7) (j := 8) rfl k7 (by decide) rfl k8)
theorem q3 (N : List D) (e1 : C 16 [(false, .lst N), (false, .lst N)] = .ok (.bl true) false [none, none]) :
    Ps WN C (mdOf tb) (lv sc h c2 c3 c4 c5 c6 (some (.sh, .lst N)) (some (.sh, .tup N)) c9 c10 c11 c12 c13) S3 (lv sc h c2 c3 c4 c5 c6 (some (.sh, .lst N)) (some (.sh, .tup N)) c9 c10 c11 c12 c13) := by
  have e : evE C (mdOf tb) P3 (lv sc h c2 c3 c4 c5 c6 (some (.sh, .lst N)) (some (.sh, .tup N)) c9 c10 c11 c12 c13) = .ok (.bl true, false) (lv sc h c2 c3 c4 c5 c6 (some (.sh, .lst N)) (some (.sh, .tup N)) c9 c10 c11 c12 c13) := by
    simp [L3.evSs, L3.evS.eq_1, L3.evS.eq_2, L3.evS.eq_3, L3.evS.eq_4, L3.evS.eq_5, L3.evS.eq_6, L3.evS.eq_9, L3.evS.eq_10, L3.evS.eq_11, L3.evS.eq_12, L3.evS.eq_13, L3.evS.eq_14, L3.evE.eq_1, L3.evE.eq_2, L3.evE.eq_3, L3.evE.eq_4, L3.evE.eq_5, L3.evE.eq_6, L3.evE.eq_7, L3.evE.eq_8, L3.evE.eq_9, L3.evE.eq_10, L3.evE.eq_11, L3.evE.eq_12, L3.evE.eq_13, L3.evE.eq_14, L3.evE.eq_15, L3.evE.eq_16, L3.evE.eq_18, L3.evE.eq_19, L3.evE.eq_20, L3.evE.eq_21, L3.evA, L3.evP, Law.evS_whlR, Law.evS_frR, Law.evE_lcR, Law.evS_frpR, Law.evE_lcpR, L3.walkP, L3.walkD, L3.unfzO, L3.unfz, Law.frR_nil, Law.frR_cons, Law.lcR_nil, Law.lcR_cons, L3.argOf, L3.Rs.bind, L3.opFin, L3.avDs, L3.avD, L3.vDs, L3.Op.keeps, L3.Op.run, L3.i1, L3.i2, L3.a1, L3.a2, L3.l1, L3.gd, L3.oB, L3.oI, L3.toB, L3.toI, L3.rdVar, L3.mvVar, L3.stVar, L3.stR, L3.stTg, L3.stVars, L3.stVarsO, L3.passA, L3.backA, L3.doCall, L3.cellOf, L3.start3, Law.outs1, Law.outs2, Law.outs3, Law.outs4, L3.resOf, L3.runFn, L3.keepB, L3.Ow.isB, L3.Ow.isOwn, L3.isTys, L3.isTy, L3.itFin, L3.ItK.run, L3.kRng1, L3.kRng2, L3.kSeq, L3.seqD, L3.seqD2, L3.kEnm, L3.enmD, Law.fit_of, Law.fit3, L3.noEr, L3.slFin, L3.slice3, L3.shE, L3.Tg.slots, L3.wipeE, L3.restE, L3.asB, Law.sz0, Law.sz1, Law.sz2, L3.rAdd3, L3.rLen3, L3.rLt3, L3.rIdx3, Law.at30, Law.at31, Law.at32, Law.at20, Law.at21, L3.isNone, Law.eqD_int, Law.md0, Law.md1, Law.md2, Law.md3, Law.md4, Law.md5, Law.md6, Law.md7, Law.md8, Law.md9, Law.md10, Law.md11, Law.md12, Law.md13, Law.md14, Law.md15, Law.md16, Law.md17, Law.md18, Law.md19, Law.md20, Law.md21, Law.md22, Law.md23, Law.md24, Law.md25, P3, lv, e1]
  exact ps_ifF (toB_ev (nt_ev (toB_ev e)))
theorem q5n (X M : List D) (most l : Int) (hl : (X.length : Int) = l) (h2 : l ≠ 2) : Ps WN C (mdOf tb) (lv sc h c2 (some (.sh, .tup X)) (some (.sh, .int most)) c5 c6 (some (.sh, .lst M)) c8 c9 c10 c11 c12 c13) S5 (lv sc h c2 (some (.sh, .tup X)) (some (.sh, .int most)) c5 c6 (some (.sh, .lst M)) c8 c9 c10 c11 c12 c13) := by
  refine ps_ifF ?_
  simp [L3.evSs, L3.evS.eq_1, L3.evS.eq_2, L3.evS.eq_3, L3.evS.eq_4, L3.evS.eq_5, L3.evS.eq_6, L3.evS.eq_9, L3.evS.eq_10, L3.evS.eq_11, L3.evS.eq_12, L3.evS.eq_13, L3.evS.eq_14, L3.evE.eq_1, L3.evE.eq_2, L3.evE.eq_3, L3.evE.eq_4, L3.evE.eq_5, L3.evE.eq_6, L3.evE.eq_7, L3.evE.eq_8, L3.evE.eq_9, L3.evE.eq_10, L3.evE.eq_11, L3.evE.eq_12, L3.evE.eq_13, L3.evE.eq_14, L3.evE.eq_15, L3.evE.eq_16, L3.evE.eq_18, L3.evE.eq_19, L3.evE.eq_20, L3.evE.eq_21, L3.evA, L3.evP, Law.evS_whlR, Law.evS_frR, Law.evE_lcR, Law.evS_frpR, Law.evE_lcpR, L3.walkP, L3.walkD, L3.unfzO, L3.unfz, Law.frR_nil, Law.frR_cons, Law.lcR_nil, Law.lcR_cons, L3.argOf, L3.Rs.bind, L3.opFin, L3.avDs, L3.avD, L3.vDs, L3.Op.keeps, L3.Op.run, L3.i1, L3.i2, L3.a1, L3.a2, L3.l1, L3.gd, L3.oB, L3.oI, L3.toB, L3.toI, L3.rdVar, L3.mvVar, L3.stVar, L3.stR, L3.stTg, L3.stVars, L3.stVarsO, L3.passA, L3.backA, L3.doCall, L3.cellOf, L3.start3, Law.outs1, Law.outs2, Law.outs3, Law.outs4, L3.resOf, L3.runFn, L3.keepB, L3.Ow.isB, L3.Ow.isOwn, L3.isTys, L3.isTy, L3.itFin, L3.ItK.run, L3.kRng1, L3.kRng2, L3.kSeq, L3.seqD, L3.seqD2, L3.kEnm, L3.enmD, Law.fit_of, Law.fit3, L3.noEr, L3.slFin, L3.slice3, L3.shE, L3.Tg.slots, L3.wipeE, L3.restE, L3.asB, Law.sz0, Law.sz1, Law.sz2, L3.rAdd3, L3.rLen3, L3.rLt3, L3.rIdx3, Law.at30, Law.at31, Law.at32, Law.at20, Law.at21, L3.isNone, Law.eqD_int, Law.md0, Law.md1, Law.md2, Law.md3, Law.md4, Law.md5, Law.md6, Law.md7, Law.md8, Law.md9, Law.md10, Law.md11, Law.md12, Law.md13, Law.md14, Law.md15, Law.md16, Law.md17, Law.md18, Law.md19, Law.md20, Law.md21, Law.md22, Law.md23, Law.md24, Law.md25, lv, hl, h2]
theorem q5y (M : List D) (a b most : Int) (e1 : C 23 [(false, .int a), (false, .int b), (false, .int most)] = .ok (.lst M) true [none, none, none]) (e2 : eqD (.lst M) (.lst M) = some true) : Ps WN C (mdOf tb) (lv sc h c2 (some (.sh, .tup [.int a, .int b])) (some (.sh, .int most)) c5 c6 (some (.sh, .lst M)) c8 c9 c10 c11 c12 c13) S5 (lv sc h c2 (some (.sh, .tup [.int a, .int b])) (some (.sh, .int most)) c5 c6 (some (.sh, .lst M)) c8 c9 c10 c11 c12 c13) := by
  refine ps_ifF ?_
  simp [L3.evSs, L3.evS.eq_1, L3.evS.eq_2, L3.evS.eq_3, L3.evS.eq_4, L3.evS.eq_5, L3.evS.eq_6, L3.evS.eq_9, L3.evS.eq_10, L3.evS.eq_11, L3.evS.eq_12, L3.evS.eq_13, L3.evS.eq_14, L3.evE.eq_1, L3.evE.eq_2, L3.evE.eq_3, L3.evE.eq_4, L3.evE.eq_5, L3.evE.eq_6, L3.evE.eq_7, L3.evE.eq_8, L3.evE.eq_9, L3.evE.eq_10, L3.evE.eq_11, L3.evE.eq_12, L3.evE.eq_13, L3.evE.eq_14, L3.evE.eq_15, L3.evE.eq_16, L3.evE.eq_18, L3.evE.eq_19, L3.evE.eq_20, L3.evE.eq_21, L3.evA, L3.evP, Law.evS_whlR, Law.evS_frR, Law.evE_lcR, Law.evS_frpR, Law.evE_lcpR, L3.walkP, L3.walkD, L3.unfzO, L3.unfz, Law.frR_nil, Law.frR_cons, Law.lcR_nil, Law.lcR_cons, L3.argOf, L3.Rs.bind, L3.opFin, L3.avDs, L3.avD, L3.vDs, L3.Op.keeps, L3.Op.run, L3.i1, L3.i2, L3.a1, L3.a2, L3.l1, L3.gd, L3.oB, L3.oI, L3.toB, L3.toI, L3.rdVar, L3.mvVar, L3.stVar, L3.stR, L3.stTg, L3.stVars, L3.stVarsO, L3.passA, L3.backA, L3.doCall, L3.cellOf, L3.start3, Law.outs1, Law.outs2, Law.outs3, Law.outs4, L3.resOf, L3.runFn, L3.keepB, L3.Ow.isB, L3.Ow.isOwn, L3.isTys, L3.isTy, L3.itFin, L3.ItK.run, L3.kRng1, L3.kRng2, L3.kSeq, L3.seqD, L3.seqD2, L3.kEnm, L3.enmD, Law.fit_of, Law.fit3, L3.noEr, L3.slFin, L3.slice3, L3.shE, L3.Tg.slots, L3.wipeE, L3.restE, L3.asB, Law.sz0, Law.sz1, Law.sz2, L3.rAdd3, L3.rLen3, L3.rLt3, L3.rIdx3, Law.at30, Law.at31, Law.at32, Law.at20, Law.at21, L3.isNone, Law.eqD_int, Law.md0, Law.md1, Law.md2, Law.md3, Law.md4, Law.md5, Law.md6, Law.md7, Law.md8, Law.md9, Law.md10, Law.md11, Law.md12, Law.md13, Law.md14, Law.md15, Law.md16, Law.md17, Law.md18, Law.md19, Law.md20, Law.md21, Law.md22, Law.md23, Law.md24, Law.md25, P5, lv, e1, e2]
theorem q6 (h1 : D) (most T r : Int) (k10 : okO c10) (hT : most + 1 = T) (e1 : C 14 [(true, h), (false, .int T)] = .ok (.int r) false [some (.brw, h1), none]) :
    Ps WN C (mdOf tb) (lv sc h c2 c3 (some (.sh, .int most)) c5 c6 c7 c8 c9 c10 c11 c12 c13) S6 (lv sc h1 c2 c3 (some (.sh, .int most)) c5 c6 c7 c8 c9 (some (.sh, .int r)) c11 c12 c13) := by
  have e : evE C (mdOf tb) P6 (lv sc h c2 c3 (some (.sh, .int most)) c5 c6 c7 c8 c9 c10 c11 c12 c13) = .ok (.int r, false) (lv sc h1 c2 c3 (some (.sh, .int most)) c5 c6 c7 c8 c9 c10 c11 c12 c13) := by
    simp [L3.evSs, L3.evS.eq_1, L3.evS.eq_2, L3.evS.eq_3, L3.evS.eq_4, L3.evS.eq_5, L3.evS.eq_6, L3.evS.eq_9, L3.evS.eq_10, L3.evS.eq_11, L3.evS.eq_12, L3.evS.eq_13, L3.evS.eq_14, L3.evE.eq_1, L3.evE.eq_2, L3.evE.eq_3, L3.evE.eq_4, L3.evE.eq_5, L3.evE.eq_6, L3.evE.eq_7, L3.evE.eq_8, L3.evE.eq_9, L3.evE.eq_10, L3.evE.eq_11, L3.evE.eq_12, L3.evE.eq_13, L3.evE.eq_14, L3.evE.eq_15, L3.evE.eq_16, L3.evE.eq_18, L3.evE.eq_19, L3.evE.eq_20, L3.evE.eq_21, L3.evA, L3.evP, Law.evS_whlR, Law.evS_frR, Law.evE_lcR, Law.evS_frpR, Law.evE_lcpR, L3.walkP, L3.walkD, L3.unfzO, L3.unfz, Law.frR_nil, Law.frR_cons, Law.lcR_nil, Law.lcR_cons, L3.argOf, L3.Rs.bind, L3.opFin, L3.avDs, L3.avD, L3.vDs, L3.Op.keeps, L3.Op.run, L3.i1, L3.i2, L3.a1, L3.a2, L3.l1, L3.gd, L3.oB, L3.oI, L3.toB, L3.toI, L3.rdVar, L3.mvVar, L3.stVar, L3.stR, L3.stTg, L3.stVars, L3.stVarsO, L3.passA, L3.backA, L3.doCall, L3.cellOf, L3.start3, Law.outs1, Law.outs2, Law.outs3, Law.outs4, L3.resOf, L3.runFn, L3.keepB, L3.Ow.isB, L3.Ow.isOwn, L3.isTys, L3.isTy, L3.itFin, L3.ItK.run, L3.kRng1, L3.kRng2, L3.kSeq, L3.seqD, L3.seqD2, L3.kEnm, L3.enmD, Law.fit_of, Law.fit3, L3.noEr, L3.slFin, L3.slice3, L3.shE, L3.Tg.slots, L3.wipeE, L3.restE, L3.asB, Law.sz0, Law.sz1, Law.sz2, L3.rAdd3, L3.rLen3, L3.rLt3, L3.rIdx3, Law.at30, Law.at31, Law.at32, Law.at20, Law.at21, L3.isNone, Law.eqD_int, Law.md0, Law.md1, Law.md2, Law.md3, Law.md4, Law.md5, Law.md6, Law.md7, Law.md8, Law.md9, Law.md10, Law.md11, Law.md12, Law.md13, Law.md14, Law.md15, Law.md16, Law.md17, Law.md18, Law.md19, Law.md20, Law.md21, Law.md22, Law.md23, Law.md24, Law.md25, P6, lv, e1, hT]
  exact ps_asgU e (stV rfl k10 _ _)
theorem q7 (o : D) (M N : List D) (r T : Int) (hT : r + 1 = T) (e1 : C 12 [(false, o), (false, .int r)] = .ok (.tup N) false [none, none]) (e2 : cut M none (some T) = N) (e3 : eqD (.lst N) (.lst N) = some true) :
    Ps WN C (mdOf tb) (lv sc h c2 c3 c4 (some (.sh, o)) c6 (some (.sh, .lst M)) c8 c9 (some (.sh, .int r)) c11 c12 c13) S7 (lv sc h c2 c3 c4 (some (.sh, o)) c6 (some (.sh, .lst M)) c8 c9 (some (.sh, .int r)) c11 c12 c13) := by
  refine ps_ifF ?_
  simp [L3.evSs, L3.evS.eq_1, L3.evS.eq_2, L3.evS.eq_3, L3.evS.eq_4, L3.evS.eq_5, L3.evS.eq_6, L3.evS.eq_9, L3.evS.eq_10, L3.evS.eq_11, L3.evS.eq_12, L3.evS.eq_13, L3.evS.eq_14, L3.evE.eq_1, L3.evE.eq_2, L3.evE.eq_3, L3.evE.eq_4, L3.evE.eq_5, L3.evE.eq_6, L3.evE.eq_7, L3.evE.eq_8, L3.evE.eq_9, L3.evE.eq_10, L3.evE.eq_11, L3.evE.eq_12, L3.evE.eq_13, L3.evE.eq_14, L3.evE.eq_15, L3.evE.eq_16, L3.evE.eq_18, L3.evE.eq_19, L3.evE.eq_20, L3.evE.eq_21, L3.evA, L3.evP, Law.evS_whlR, Law.evS_frR, Law.evE_lcR, Law.evS_frpR, Law.evE_lcpR, L3.walkP, L3.walkD, L3.unfzO, L3.unfz, Law.frR_nil, Law.frR_cons, Law.lcR_nil, Law.lcR_cons, L3.argOf, L3.Rs.bind, L3.opFin, L3.avDs, L3.avD, L3.vDs, L3.Op.keeps, L3.Op.run, L3.i1, L3.i2, L3.a1, L3.a2, L3.l1, L3.gd, L3.oB, L3.oI, L3.toB, L3.toI, L3.rdVar, L3.mvVar, L3.stVar, L3.stR, L3.stTg, L3.stVars, L3.stVarsO, L3.passA, L3.backA, L3.doCall, L3.cellOf, L3.start3, Law.outs1, Law.outs2, Law.outs3, Law.outs4, L3.resOf, L3.runFn, L3.keepB, L3.Ow.isB, L3.Ow.isOwn, L3.isTys, L3.isTy, L3.itFin, L3.ItK.run, L3.kRng1, L3.kRng2, L3.kSeq, L3.seqD, L3.seqD2, L3.kEnm, L3.enmD, Law.fit_of, Law.fit3, L3.noEr, L3.slFin, L3.slice3, L3.shE, L3.Tg.slots, L3.wipeE, L3.restE, L3.asB, Law.sz0, Law.sz1, Law.sz2, L3.rAdd3, L3.rLen3, L3.rLt3, L3.rIdx3, Law.at30, Law.at31, Law.at32, Law.at20, Law.at21, L3.isNone, Law.eqD_int, Law.md0, Law.md1, Law.md2, Law.md3, Law.md4, Law.md5, Law.md6, Law.md7, Law.md8, Law.md9, Law.md10, Law.md11, Law.md12, Law.md13, Law.md14, Law.md15, Law.md16, Law.md17, Law.md18, Law.md19, Law.md20, Law.md21, Law.md22, Law.md23, Law.md24, Law.md25, lv, e1, e2, e3, hT]
theorem q8 (h1 x : D) (k11 : okO c11) (e1 : C 15 [(true, h), (false, .lst menuB)] = .ok x false [some (.brw, h1), none]) :
    Ps WN C (mdOf tb) (lv sc h c2 c3 c4 c5 c6 c7 c8 c9 c10 c11 c12 c13) S8 (lv sc h1 c2 c3 c4 c5 c6 c7 c8 c9 c10 (some (.sh, x)) c12 c13) := by
  have p30 : CPow 10 30 := by decide
  have f8 : fit 8 = true := fit_of (by decide)
  simp only [menuB] at e1
  have e : evE C (mdOf tb) P8 (lv sc h c2 c3 c4 c5 c6 c7 c8 c9 c10 c11 c12 c13) = .ok (x, false) (lv sc h1 c2 c3 c4 c5 c6 c7 c8 c9 c10 c11 c12 c13) := by
    simp [L3.evSs, L3.evS.eq_1, L3.evS.eq_2, L3.evS.eq_3, L3.evS.eq_4, L3.evS.eq_5, L3.evS.eq_6, L3.evS.eq_9, L3.evS.eq_10, L3.evS.eq_11, L3.evS.eq_12, L3.evS.eq_13, L3.evS.eq_14, L3.evE.eq_1, L3.evE.eq_2, L3.evE.eq_3, L3.evE.eq_4, L3.evE.eq_5, L3.evE.eq_6, L3.evE.eq_7, L3.evE.eq_8, L3.evE.eq_9, L3.evE.eq_10, L3.evE.eq_11, L3.evE.eq_12, L3.evE.eq_13, L3.evE.eq_14, L3.evE.eq_15, L3.evE.eq_16, L3.evE.eq_18, L3.evE.eq_19, L3.evE.eq_20, L3.evE.eq_21, L3.evA, L3.evP, Law.evS_whlR, Law.evS_frR, Law.evE_lcR, Law.evS_frpR, Law.evE_lcpR, L3.walkP, L3.walkD, L3.unfzO, L3.unfz, Law.frR_nil, Law.frR_cons, Law.lcR_nil, Law.lcR_cons, L3.argOf, L3.Rs.bind, L3.opFin, L3.avDs, L3.avD, L3.vDs, L3.Op.keeps, L3.Op.run, L3.i1, L3.i2, L3.a1, L3.a2, L3.l1, L3.gd, L3.oB, L3.oI, L3.toB, L3.toI, L3.rdVar, L3.mvVar, L3.stVar, L3.stR, L3.stTg, L3.stVars, L3.stVarsO, L3.passA, L3.backA, L3.doCall, L3.cellOf, L3.start3, Law.outs1, Law.outs2, Law.outs3, Law.outs4, L3.resOf, L3.runFn, L3.keepB, L3.Ow.isB, L3.Ow.isOwn, L3.isTys, L3.isTy, L3.itFin, L3.ItK.run, L3.kRng1, L3.kRng2, L3.kSeq, L3.seqD, L3.seqD2, L3.kEnm, L3.enmD, Law.fit_of, Law.fit3, L3.noEr, L3.slFin, L3.slice3, L3.shE, L3.Tg.slots, L3.wipeE, L3.restE, L3.asB, Law.sz0, Law.sz1, Law.sz2, L3.rAdd3, L3.rLen3, L3.rLt3, L3.rIdx3, Law.at30, Law.at31, Law.at32, Law.at20, Law.at21, L3.isNone, Law.eqD_int, Law.md0, Law.md1, Law.md2, Law.md3, Law.md4, Law.md5, Law.md6, Law.md7, Law.md8, Law.md9, Law.md10, Law.md11, Law.md12, Law.md13, Law.md14, Law.md15, Law.md16, Law.md17, Law.md18, Law.md19, Law.md20, Law.md21, Law.md22, Law.md23, Law.md24, Law.md25, P8, lv, e1, p30, f8]
  exact ps_asgU e (stV rfl k11 _ _)
theorem q9 (h1 h2 o t d x : D) (k12 : okO c12) (e0 : C 17 [(true, h)] = .ok d false [some (.brw, h1)]) (e1 : C 15 [(true, h1), (false, .lst [.non, .int 0, .str "system", .lst [o], .dct [] [], t, d])] = .ok x false [some (.brw, h2), none]) :
    Ps WN C (mdOf tb) (lv sc h c2 (some (.sh, t)) c4 (some (.sh, o)) c6 c7 c8 c9 c10 c11 c12 c13) S9 (lv sc h2 c2 (some (.sh, t)) c4 (some (.sh, o)) c6 c7 c8 c9 c10 c11 (some (.sh, x)) c13) := by
  have f7 : fit 7 = true := fit_of (by decide)
  have e : evE C (mdOf tb) P9 (lv sc h c2 (some (.sh, t)) c4 (some (.sh, o)) c6 c7 c8 c9 c10 c11 c12 c13) = .ok (x, false) (lv sc h2 c2 (some (.sh, t)) c4 (some (.sh, o)) c6 c7 c8 c9 c10 c11 c12 c13) := by
    simp [L3.evSs, L3.evS.eq_1, L3.evS.eq_2, L3.evS.eq_3, L3.evS.eq_4, L3.evS.eq_5, L3.evS.eq_6, L3.evS.eq_9, L3.evS.eq_10, L3.evS.eq_11, L3.evS.eq_12, L3.evS.eq_13, L3.evS.eq_14, L3.evE.eq_1, L3.evE.eq_2, L3.evE.eq_3, L3.evE.eq_4, L3.evE.eq_5, L3.evE.eq_6, L3.evE.eq_7, L3.evE.eq_8, L3.evE.eq_9, L3.evE.eq_10, L3.evE.eq_11, L3.evE.eq_12, L3.evE.eq_13, L3.evE.eq_14, L3.evE.eq_15, L3.evE.eq_16, L3.evE.eq_18, L3.evE.eq_19, L3.evE.eq_20, L3.evE.eq_21, L3.evA, L3.evP, Law.evS_whlR, Law.evS_frR, Law.evE_lcR, Law.evS_frpR, Law.evE_lcpR, L3.walkP, L3.walkD, L3.unfzO, L3.unfz, Law.frR_nil, Law.frR_cons, Law.lcR_nil, Law.lcR_cons, L3.argOf, L3.Rs.bind, L3.opFin, L3.avDs, L3.avD, L3.vDs, L3.Op.keeps, L3.Op.run, L3.i1, L3.i2, L3.a1, L3.a2, L3.l1, L3.gd, L3.oB, L3.oI, L3.toB, L3.toI, L3.rdVar, L3.mvVar, L3.stVar, L3.stR, L3.stTg, L3.stVars, L3.stVarsO, L3.passA, L3.backA, L3.doCall, L3.cellOf, L3.start3, Law.outs1, Law.outs2, Law.outs3, Law.outs4, L3.resOf, L3.runFn, L3.keepB, L3.Ow.isB, L3.Ow.isOwn, L3.isTys, L3.isTy, L3.itFin, L3.ItK.run, L3.kRng1, L3.kRng2, L3.kSeq, L3.seqD, L3.seqD2, L3.kEnm, L3.enmD, Law.fit_of, Law.fit3, L3.noEr, L3.slFin, L3.slice3, L3.shE, L3.Tg.slots, L3.wipeE, L3.restE, L3.asB, Law.sz0, Law.sz1, Law.sz2, L3.rAdd3, L3.rLen3, L3.rLt3, L3.rIdx3, Law.at30, Law.at31, Law.at32, Law.at20, Law.at21, L3.isNone, Law.eqD_int, Law.md0, Law.md1, Law.md2, Law.md3, Law.md4, Law.md5, Law.md6, Law.md7, Law.md8, Law.md9, Law.md10, Law.md11, Law.md12, Law.md13, Law.md14, Law.md15, Law.md16, Law.md17, Law.md18, Law.md19, Law.md20, Law.md21, Law.md22, Law.md23, Law.md24, Law.md25, P9, lv, e0, e1, f7]
  exact ps_asgU e (stV rfl k12 _ _)
theorem q10 (o x b : D) (k13 : okO c13) (e1 : C 12 [(false, x), (false, b)] = .er ⟨2, [], []⟩ [none, none]) (e2 : C 24 [(false, .thk false (.exc 2 [] []))] = .ok (.str "system") false [none]) :
    Ps WN C (mdOf tb) (lv sc h c2 c3 c4 (some (.sh, o)) c6 c7 c8 c9 c10 (some (.sh, b)) (some (.sh, x)) c13) S10 (lv sc h c2 c3 c4 (some (.sh, o)) c6 c7 c8 c9 c10 (some (.sh, b)) (some (.sh, x)) (some (.own, .lst [.str "system"]))) := by
  have e : evE C (mdOf tb) P10 (lv sc h c2 c3 c4 (some (.sh, o)) c6 c7 c8 c9 c10 (some (.sh, b)) (some (.sh, x)) c13) = .ok (.lst [.str "system"], true) (lv sc h c2 c3 c4 (some (.sh, o)) c6 c7 c8 c9 c10 (some (.sh, b)) (some (.sh, x)) c13) := by
    simp [L3.evSs, L3.evS.eq_1, L3.evS.eq_2, L3.evS.eq_3, L3.evS.eq_4, L3.evS.eq_5, L3.evS.eq_6, L3.evS.eq_9, L3.evS.eq_10, L3.evS.eq_11, L3.evS.eq_12, L3.evS.eq_13, L3.evS.eq_14, L3.evE.eq_1, L3.evE.eq_2, L3.evE.eq_3, L3.evE.eq_4, L3.evE.eq_5, L3.evE.eq_6, L3.evE.eq_7, L3.evE.eq_8, L3.evE.eq_9, L3.evE.eq_10, L3.evE.eq_11, L3.evE.eq_12, L3.evE.eq_13, L3.evE.eq_14, L3.evE.eq_15, L3.evE.eq_16, L3.evE.eq_18, L3.evE.eq_19, L3.evE.eq_20, L3.evE.eq_21, L3.evA, L3.evP, Law.evS_whlR, Law.evS_frR, Law.evE_lcR, Law.evS_frpR, Law.evE_lcpR, L3.walkP, L3.walkD, L3.unfzO, L3.unfz, Law.frR_nil, Law.frR_cons, Law.lcR_nil, Law.lcR_cons, L3.argOf, L3.Rs.bind, L3.opFin, L3.avDs, L3.avD, L3.vDs, L3.Op.keeps, L3.Op.run, L3.i1, L3.i2, L3.a1, L3.a2, L3.l1, L3.gd, L3.oB, L3.oI, L3.toB, L3.toI, L3.rdVar, L3.mvVar, L3.stVar, L3.stR, L3.stTg, L3.stVars, L3.stVarsO, L3.passA, L3.backA, L3.doCall, L3.cellOf, L3.start3, Law.outs1, Law.outs2, Law.outs3, Law.outs4, L3.resOf, L3.runFn, L3.keepB, L3.Ow.isB, L3.Ow.isOwn, L3.isTys, L3.isTy, L3.itFin, L3.ItK.run, L3.kRng1, L3.kRng2, L3.kSeq, L3.seqD, L3.seqD2, L3.kEnm, L3.enmD, Law.fit_of, Law.fit3, L3.noEr, L3.slFin, L3.slice3, L3.shE, L3.Tg.slots, L3.wipeE, L3.restE, L3.asB, Law.sz0, Law.sz1, Law.sz2, L3.rAdd3, L3.rLen3, L3.rLt3, L3.rIdx3, Law.at30, Law.at31, Law.at32, Law.at20, Law.at21, L3.isNone, Law.eqD_int, Law.md0, Law.md1, Law.md2, Law.md3, Law.md4, Law.md5, Law.md6, Law.md7, Law.md8, Law.md9, Law.md10, Law.md11, Law.md12, Law.md13, Law.md14, Law.md15, Law.md16, Law.md17, Law.md18, Law.md19, Law.md20, Law.md21, Law.md22, Law.md23, Law.md24, Law.md25, P10, lv, e1, e2]
  exact ps_asgU e (stV rfl k13 _ _)
theorem q11 (o x b : D) (e1 : C 12 [(false, o), (false, b)] = .er ⟨1, [], []⟩ [none, none]) (e2 : C 24 [(false, .thk false (.exc 1 [] []))] = .ok (.str "number") false [none]) :
    Ps WN C (mdOf tb) (lv sc h c2 c3 c4 (some (.sh, o)) c6 c7 c8 c9 c10 (some (.sh, b)) (some (.sh, x)) (some (.own, .lst [.str "system"]))) S11 (lv sc h c2 c3 c4 (some (.sh, o)) c6 c7 c8 c9 c10 (some (.sh, b)) (some (.sh, x)) (some (.own, .lst [.str "system", .str "number"]))) := by
  unfold Ps
  simp [L3.evSs, L3.evS.eq_1, L3.evS.eq_2, L3.evS.eq_3, L3.evS.eq_4, L3.evS.eq_5, L3.evS.eq_6, L3.evS.eq_9, L3.evS.eq_10, L3.evS.eq_11, L3.evS.eq_12, L3.evS.eq_13, L3.evS.eq_14, L3.evE.eq_1, L3.evE.eq_2, L3.evE.eq_3, L3.evE.eq_4, L3.evE.eq_5, L3.evE.eq_6, L3.evE.eq_7, L3.evE.eq_8, L3.evE.eq_9, L3.evE.eq_10, L3.evE.eq_11, L3.evE.eq_12, L3.evE.eq_13, L3.evE.eq_14, L3.evE.eq_15, L3.evE.eq_16, L3.evE.eq_18, L3.evE.eq_19, L3.evE.eq_20, L3.evE.eq_21, L3.evA, L3.evP, Law.evS_whlR, Law.evS_frR, Law.evE_lcR, Law.evS_frpR, Law.evE_lcpR, L3.walkP, L3.walkD, L3.unfzO, L3.unfz, Law.frR_nil, Law.frR_cons, Law.lcR_nil, Law.lcR_cons, L3.argOf, L3.Rs.bind, L3.opFin, L3.avDs, L3.avD, L3.vDs, L3.Op.keeps, L3.Op.run, L3.i1, L3.i2, L3.a1, L3.a2, L3.l1, L3.gd, L3.oB, L3.oI, L3.toB, L3.toI, L3.rdVar, L3.mvVar, L3.stVar, L3.stR, L3.stTg, L3.stVars, L3.stVarsO, L3.passA, L3.backA, L3.doCall, L3.cellOf, L3.start3, Law.outs1, Law.outs2, Law.outs3, Law.outs4, L3.resOf, L3.runFn, L3.keepB, L3.Ow.isB, L3.Ow.isOwn, L3.isTys, L3.isTy, L3.itFin, L3.ItK.run, L3.kRng1, L3.kRng2, L3.kSeq, L3.seqD, L3.seqD2, L3.kEnm, L3.enmD, Law.fit_of, Law.fit3, L3.noEr, L3.slFin, L3.slice3, L3.shE, L3.Tg.slots, L3.wipeE, L3.restE, L3.asB, Law.sz0, Law.sz1, Law.sz2, L3.rAdd3, L3.rLen3, L3.rLt3, L3.rIdx3, Law.at30, Law.at31, Law.at32, Law.at20, Law.at21, L3.isNone, Law.eqD_int, Law.md0, Law.md1, Law.md2, Law.md3, Law.md4, Law.md5, Law.md6, Law.md7, Law.md8, Law.md9, Law.md10, Law.md11, Law.md12, Law.md13, Law.md14, Law.md15, Law.md16, Law.md17, Law.md18, Law.md19, Law.md20, Law.md21, Law.md22, Law.md23, Law.md24, Law.md25, lv, e1, e2, mtFin, mtAt, mtPre, Mt.run]
theorem q12 : Ps WN C (mdOf tb) (lv sc h c2 c3 c4 c5 c6 c7 c8 c9 c10 c11 c12 (some (.own, .lst [.str "system", .str "number"]))) S12 (lv sc h c2 c3 c4 c5 c6 c7 c8 c9 c10 c11 c12 (some (.own, .lst [.str "system", .str "number"]))) := by
  have e0 : eqD (.lst [.str "system", .str "number"]) (.lst [.str "system", .str "number"]) = some true := by kernel_rfl
  refine ps_ifF ?_
  simp [L3.evSs, L3.evS.eq_1, L3.evS.eq_2, L3.evS.eq_3, L3.evS.eq_4, L3.evS.eq_5, L3.evS.eq_6, L3.evS.eq_9, L3.evS.eq_10, L3.evS.eq_11, L3.evS.eq_12, L3.evS.eq_13, L3.evS.eq_14, L3.evE.eq_1, L3.evE.eq_2, L3.evE.eq_3, L3.evE.eq_4, L3.evE.eq_5, L3.evE.eq_6, L3.evE.eq_7, L3.evE.eq_8, L3.evE.eq_9, L3.evE.eq_10, L3.evE.eq_11, L3.evE.eq_12, L3.evE.eq_13, L3.evE.eq_14, L3.evE.eq_15, L3.evE.eq_16, L3.evE.eq_18, L3.evE.eq_19, L3.evE.eq_20, L3.evE.eq_21, L3.evA, L3.evP, Law.evS_whlR, Law.evS_frR, Law.evE_lcR, Law.evS_frpR, Law.evE_lcpR, L3.walkP, L3.walkD, L3.unfzO, L3.unfz, Law.frR_nil, Law.frR_cons, Law.lcR_nil, Law.lcR_cons, L3.argOf, L3.Rs.bind, L3.opFin, L3.avDs, L3.avD, L3.vDs, L3.Op.keeps, L3.Op.run, L3.i1, L3.i2, L3.a1, L3.a2, L3.l1, L3.gd, L3.oB, L3.oI, L3.toB, L3.toI, L3.rdVar, L3.mvVar, L3.stVar, L3.stR, L3.stTg, L3.stVars, L3.stVarsO, L3.passA, L3.backA, L3.doCall, L3.cellOf, L3.start3, Law.outs1, Law.outs2, Law.outs3, Law.outs4, L3.resOf, L3.runFn, L3.keepB, L3.Ow.isB, L3.Ow.isOwn, L3.isTys, L3.isTy, L3.itFin, L3.ItK.run, L3.kRng1, L3.kRng2, L3.kSeq, L3.seqD, L3.seqD2, L3.kEnm, L3.enmD, Law.fit_of, Law.fit3, L3.noEr, L3.slFin, L3.slice3, L3.shE, L3.Tg.slots, L3.wipeE, L3.restE, L3.asB, Law.sz0, Law.sz1, Law.sz2, L3.rAdd3, L3.rLen3, L3.rLt3, L3.rIdx3, Law.at30, Law.at31, Law.at32, Law.at20, Law.at21, L3.isNone, Law.eqD_int, Law.md0, Law.md1, Law.md2, Law.md3, Law.md4, Law.md5, Law.md6, Law.md7, Law.md8, Law.md9, Law.md10, Law.md11, Law.md12, Law.md13, Law.md14, Law.md15, Law.md16, Law.md17, Law.md18, Law.md19, Law.md20, Law.md21, Law.md22, Law.md23, Law.md24, Law.md25, lv, e0]
end
end Law

namespace Law
open PySem PySem.Spec PyProof.Rows L2 L3
section
variable (C : CR) (sc h : D) (c2 c3 c4 c5 c7 c10 c11 c12 c13 : Cell)
def lx (sc h : D) (c2 c3 c4 c5 c6 c7 c8 c9 c10 c11 c12 c13 c14 : Cell) : En := [some (.sh, sc), some (.own, h), c2, c3, c4, c5, c6, c7, c8, c9, c10, c11, c12, c13, c14]
theorem s4_item (B N : List D) (K x r v : Int) (b : Bool) (hr : K - x = r) (hb : atI B r = some (.bl b)) (hv : atI N x = some (.int v)) :
    toB (evE C (mdOf tb) L25_2c (lx sc h c2 c3 c4 c5 (some (.sh, .lst B)) c7 (some (.sh, .tup N)) (some (.sh, .int K)) c10 c11 c12 c13 (some (.sh, .int x)))) = .ok b (lx sc h c2 c3 c4 c5 (some (.sh, .lst B)) c7 (some (.sh, .tup N)) (some (.sh, .int K)) c10 c11 c12 c13 (some (.sh, .int x))) ∧
    evE C (mdOf tb) L25_2 (lx sc h c2 c3 c4 c5 (some (.sh, .lst B)) c7 (some (.sh, .tup N)) (some (.sh, .int K)) c10 c11 c12 c13 (some (.sh, .int x))) = .ok (.int v, false) (lx sc h c2 c3 c4 c5 (some (.sh, .lst B)) c7 (some (.sh, .tup N)) (some (.sh, .int K)) c10 c11 c12 c13 (some (.sh, .int x))) := by
  constructor
  · simp [L3.evSs, L3.evS.eq_1, L3.evS.eq_2, L3.evS.eq_3, L3.evS.eq_4, L3.evS.eq_5, L3.evS.eq_6, L3.evS.eq_9, L3.evS.eq_10, L3.evS.eq_11, L3.evS.eq_12, L3.evS.eq_13, L3.evS.eq_14, L3.evE.eq_1, L3.evE.eq_2, L3.evE.eq_3, L3.evE.eq_4, L3.evE.eq_5, L3.evE.eq_6, L3.evE.eq_7, L3.evE.eq_8, L3.evE.eq_9, L3.evE.eq_10, L3.evE.eq_11, L3.evE.eq_12, L3.evE.eq_13, L3.evE.eq_14, L3.evE.eq_15, L3.evE.eq_16, L3.evE.eq_18, L3.evE.eq_19, L3.evE.eq_20, L3.evE.eq_21, L3.evA, L3.evP, Law.evS_whlR, Law.evS_frR, Law.evE_lcR, Law.evS_frpR, Law.evE_lcpR, L3.walkP, L3.walkD, L3.unfzO, L3.unfz, Law.frR_nil, Law.frR_cons, Law.lcR_nil, Law.lcR_cons, L3.argOf, L3.Rs.bind, L3.opFin, L3.avDs, L3.avD, L3.vDs, L3.Op.keeps, L3.Op.run, L3.i1, L3.i2, L3.a1, L3.a2, L3.l1, L3.gd, L3.oB, L3.oI, L3.toB, L3.toI, L3.rdVar, L3.mvVar, L3.stVar, L3.stR, L3.stTg, L3.stVars, L3.stVarsO, L3.passA, L3.backA, L3.doCall, L3.cellOf, L3.start3, Law.outs1, Law.outs2, Law.outs3, Law.outs4, L3.resOf, L3.runFn, L3.keepB, L3.Ow.isB, L3.Ow.isOwn, L3.isTys, L3.isTy, L3.itFin, L3.ItK.run, L3.kRng1, L3.kRng2, L3.kSeq, L3.seqD, L3.seqD2, L3.kEnm, L3.enmD, Law.fit_of, Law.fit3, L3.noEr, L3.slFin, L3.slice3, L3.shE, L3.Tg.slots, L3.wipeE, L3.restE, L3.asB, Law.sz0, Law.sz1, Law.sz2, L3.rAdd3, L3.rLen3, L3.rLt3, L3.rIdx3, Law.at30, Law.at31, Law.at32, Law.at20, Law.at21, L3.isNone, Law.eqD_int, Law.md0, Law.md1, Law.md2, Law.md3, Law.md4, Law.md5, Law.md6, Law.md7, Law.md8, Law.md9, Law.md10, Law.md11, Law.md12, Law.md13, Law.md14, Law.md15, Law.md16, Law.md17, Law.md18, Law.md19, Law.md20, Law.md21, Law.md22, Law.md23, Law.md24, Law.md25, L25_2c, lx, hr, hb]
  · simp [L3.evSs, L3.evS.eq_1, L3.evS.eq_2, L3.evS.eq_3, L3.evS.eq_4, L3.evS.eq_5, L3.evS.eq_6, L3.evS.eq_9, L3.evS.eq_10, L3.evS.eq_11, L3.evS.eq_12, L3.evS.eq_13, L3.evS.eq_14, L3.evE.eq_1, L3.evE.eq_2, L3.evE.eq_3, L3.evE.eq_4, L3.evE.eq_5, L3.evE.eq_6, L3.evE.eq_7, L3.evE.eq_8, L3.evE.eq_9, L3.evE.eq_10, L3.evE.eq_11, L3.evE.eq_12, L3.evE.eq_13, L3.evE.eq_14, L3.evE.eq_15, L3.evE.eq_16, L3.evE.eq_18, L3.evE.eq_19, L3.evE.eq_20, L3.evE.eq_21, L3.evA, L3.evP, Law.evS_whlR, Law.evS_frR, Law.evE_lcR, Law.evS_frpR, Law.evE_lcpR, L3.walkP, L3.walkD, L3.unfzO, L3.unfz, Law.frR_nil, Law.frR_cons, Law.lcR_nil, Law.lcR_cons, L3.argOf, L3.Rs.bind, L3.opFin, L3.avDs, L3.avD, L3.vDs, L3.Op.keeps, L3.Op.run, L3.i1, L3.i2, L3.a1, L3.a2, L3.l1, L3.gd, L3.oB, L3.oI, L3.toB, L3.toI, L3.rdVar, L3.mvVar, L3.stVar, L3.stR, L3.stTg, L3.stVars, L3.stVarsO, L3.passA, L3.backA, L3.doCall, L3.cellOf, L3.start3, Law.outs1, Law.outs2, Law.outs3, Law.outs4, L3.resOf, L3.runFn, L3.keepB, L3.Ow.isB, L3.Ow.isOwn, L3.isTys, L3.isTy, L3.itFin, L3.ItK.run, L3.kRng1, L3.kRng2, L3.kSeq, L3.seqD, L3.seqD2, L3.kEnm, L3.enmD, Law.fit_of, Law.fit3, L3.noEr, L3.slFin, L3.slice3, L3.shE, L3.Tg.slots, L3.wipeE, L3.restE, L3.asB, Law.sz0, Law.sz1, Law.sz2, L3.rAdd3, L3.rLen3, L3.rLt3, L3.rIdx3, Law.at30, Law.at31, Law.at32, Law.at20, Law.at21, L3.isNone, Law.eqD_int, Law.md0, Law.md1, Law.md2, Law.md3, Law.md4, Law.md5, Law.md6, Law.md7, Law.md8, Law.md9, Law.md10, Law.md11, Law.md12, Law.md13, Law.md14, Law.md15, Law.md16, Law.md17, Law.md18, Law.md19, Law.md20, Law.md21, Law.md22, Law.md23, Law.md24, Law.md25, L25_2, lx, hv]
theorem s4_turn (B N X G : List D) (is : List Int) (K T : Int) (c9 : Cell) (k9 : okO c9) (hT : K + 1 = T) (iT : inB T = true) (hG : rngI 0 T.toNat = G) (hX : asI X = some is) (hs : is.sum = 0)
    (f : lcR C (mdOf tb) [14] (.nm 14) L25_2c L25_2 G [] (lv sc h c2 c3 c4 c5 (some (.sh, .lst B)) c7 (some (.sh, .tup N)) (some (.sh, .int K)) c10 c11 c12 c13) = .ok X (lv sc h c2 c3 c4 c5 (some (.sh, .lst B)) c7 (some (.sh, .tup N)) (some (.sh, .int K)) c10 c11 c12 c13)) :
    ((stR (stTg (.nm 9) (.int K) false (lv sc h c2 c3 c4 c5 (some (.sh, .lst B)) c7 (some (.sh, .tup N)) c9 c10 c11 c12 c13))).bind fun _ en => evSs WN C (mdOf tb) F25_1 en) = .ok .nx (lv sc h c2 c3 c4 c5 (some (.sh, .lst B)) c7 (some (.sh, .tup N)) (some (.sh, .int K)) c10 c11 c12 c13) := by
  have e1 : stTg (.nm 9) (.int K) false (lv sc h c2 c3 c4 c5 (some (.sh, .lst B)) c7 (some (.sh, .tup N)) c9 c10 c11 c12 c13) = some (lv sc h c2 c3 c4 c5 (some (.sh, .lst B)) c7 (some (.sh, .tup N)) (some (.sh, .int K)) c10 c11 c12 c13) := stV (en := lv sc h c2 c3 c4 c5 (some (.sh, .lst B)) c7 (some (.sh, .tup N)) c9 c10 c11 c12 c13) (i := 9) rfl k9 (.int K) false
  rw [e1]
  let en : En := lv sc h c2 c3 c4 c5 (some (.sh, .lst B)) c7 (some (.sh, .tup N)) (some (.sh, .int K)) c10 c11 c12 c13
  have ea : evA C (mdOf tb) (.cons (.op .add (.cons (.pk 9) (.cons (.cst (.int 1)) .nil))) .nil) en = .ok [.v (.int T)] en := by simp [L3.evSs, L3.evS.eq_1, L3.evS.eq_2, L3.evS.eq_3, L3.evS.eq_4, L3.evS.eq_5, L3.evS.eq_6, L3.evS.eq_9, L3.evS.eq_10, L3.evS.eq_11, L3.evS.eq_12, L3.evS.eq_13, L3.evS.eq_14, L3.evE.eq_1, L3.evE.eq_2, L3.evE.eq_3, L3.evE.eq_4, L3.evE.eq_5, L3.evE.eq_6, L3.evE.eq_7, L3.evE.eq_8, L3.evE.eq_9, L3.evE.eq_10, L3.evE.eq_11, L3.evE.eq_12, L3.evE.eq_13, L3.evE.eq_14, L3.evE.eq_15, L3.evE.eq_16, L3.evE.eq_18, L3.evE.eq_19, L3.evE.eq_20, L3.evE.eq_21, L3.evA, L3.evP, Law.evS_whlR, Law.evS_frR, Law.evE_lcR, Law.evS_frpR, Law.evE_lcpR, L3.walkP, L3.walkD, L3.unfzO, L3.unfz, Law.frR_nil, Law.frR_cons, Law.lcR_nil, Law.lcR_cons, L3.argOf, L3.Rs.bind, L3.opFin, L3.avDs, L3.avD, L3.vDs, L3.Op.keeps, L3.Op.run, L3.i1, L3.i2, L3.a1, L3.a2, L3.l1, L3.gd, L3.oB, L3.oI, L3.toB, L3.toI, L3.rdVar, L3.mvVar, L3.stVar, L3.stR, L3.stTg, L3.stVars, L3.stVarsO, L3.passA, L3.backA, L3.doCall, L3.cellOf, L3.start3, Law.outs1, Law.outs2, Law.outs3, Law.outs4, L3.resOf, L3.runFn, L3.keepB, L3.Ow.isB, L3.Ow.isOwn, L3.isTys, L3.isTy, L3.itFin, L3.ItK.run, L3.kRng1, L3.kRng2, L3.kSeq, L3.seqD, L3.seqD2, L3.kEnm, L3.enmD, Law.fit_of, Law.fit3, L3.noEr, L3.slFin, L3.slice3, L3.shE, L3.Tg.slots, L3.wipeE, L3.restE, L3.asB, Law.sz0, Law.sz1, Law.sz2, L3.rAdd3, L3.rLen3, L3.rLt3, L3.rIdx3, Law.at30, Law.at31, Law.at32, Law.at20, Law.at21, L3.isNone, Law.eqD_int, Law.md0, Law.md1, Law.md2, Law.md3, Law.md4, Law.md5, Law.md6, Law.md7, Law.md8, Law.md9, Law.md10, Law.md11, Law.md12, Law.md13, Law.md14, Law.md15, Law.md16, Law.md17, Law.md18, Law.md19, Law.md20, Law.md21, Law.md22, Law.md23, Law.md24, Law.md25, en, lv, hT]
  have ei : itFin .rng1 [.v (.int T)] en = .ok G en := by rw [it_rng1 iT, hG]
  have e2 : evE C (mdOf tb) (.lc [14] (.nm 14) .rng1 (.cons (.op .add (.cons (.pk 9) (.cons (.cst (.int 1)) .nil))) .nil) L25_2c L25_2) en = .ok (.lst X, true) en := lc_val ea ei rfl f
  have e3 : evE C (mdOf tb) (.op .sum (.cons (.lc [14] (.nm 14) .rng1 (.cons (.op .add (.cons (.pk 9) (.cons (.cst (.int 1)) .nil))) .nil) L25_2c L25_2) .nil)) en = .ok (.int 0, false) en :=
    evE_opU (ds := [.lst X]) (evA_consU (arg_e e2) evA_nilU) rfl (by
      show oI ((asI X).map List.sum) = _
      rw [hX]
      show oI (some is.sum) = _
      rw [hs]; rfl)
  have e4 : evE C (mdOf tb) (.op .ne (.cons (.op .sum (.cons (.lc [14] (.nm 14) .rng1 (.cons (.op .add (.cons (.pk 9) (.cons (.cst (.int 1)) .nil))) .nil) L25_2c L25_2) .nil)) (.cons (.cst (.int 0)) .nil))) en = .ok (.bl false, false) en :=
    evE_opU (ds := [.int 0, .int 0]) (evA_consU (arg_e e3) (evA_consU (arg_e pe_cst) evA_nilU)) rfl (by
      show oB ((eqD (.int 0) (.int 0)).map (! ·)) = _
      rw [eqD_int]; rfl)
  have s : Ps WN C (mdOf tb) en (.ife (.op .ne (.cons (.op .sum (.cons (.lc [14] (.nm 14) .rng1 (.cons (.op .add (.cons (.pk 9) (.cons (.cst (.int 1)) .nil))) .nil) L25_2c L25_2) .nil)) (.cons (.cst (.int 0)) .nil))) rf .nil) en := ps_ifF (toB_ev e4)
  exact (ss_step s).trans ss_nilU
theorem q4_run (c6 c8 c9 c9' : Cell) (most T : Int) (G : List D) (hT : most + 1 = T) (it2 : ∀ en : En, itFin .rng2 [.v (.int 1), .v (.int T)] en = .ok G en)
    (f : frR WN C (mdOf tb) (.nm 9) F25_1 G (lv sc h c2 c3 (some (.sh, .int most)) c5 c6 c7 c8 c9 c10 c11 c12 c13) = .ok .nx (lv sc h c2 c3 (some (.sh, .int most)) c5 c6 c7 c8 c9' c10 c11 c12 c13)) :
    Ps WN C (mdOf tb) (lv sc h c2 c3 (some (.sh, .int most)) c5 c6 c7 c8 c9 c10 c11 c12 c13) S4 (lv sc h c2 c3 (some (.sh, .int most)) c5 c6 c7 c8 c9' c10 c11 c12 c13) := by
  have ea : evA C (mdOf tb) (.cons (.cst (.int 1)) (.cons (.op .add (.cons (.pk 4) (.cons (.cst (.int 1)) .nil))) .nil)) (lv sc h c2 c3 (some (.sh, .int most)) c5 c6 c7 c8 c9 c10 c11 c12 c13) = .ok [.v (.int 1), .v (.int T)] (lv sc h c2 c3 (some (.sh, .int most)) c5 c6 c7 c8 c9 c10 c11 c12 c13) := by
    simp [L3.evSs, L3.evS.eq_1, L3.evS.eq_2, L3.evS.eq_3, L3.evS.eq_4, L3.evS.eq_5, L3.evS.eq_6, L3.evS.eq_9, L3.evS.eq_10, L3.evS.eq_11, L3.evS.eq_12, L3.evS.eq_13, L3.evS.eq_14, L3.evE.eq_1, L3.evE.eq_2, L3.evE.eq_3, L3.evE.eq_4, L3.evE.eq_5, L3.evE.eq_6, L3.evE.eq_7, L3.evE.eq_8, L3.evE.eq_9, L3.evE.eq_10, L3.evE.eq_11, L3.evE.eq_12, L3.evE.eq_13, L3.evE.eq_14, L3.evE.eq_15, L3.evE.eq_16, L3.evE.eq_18, L3.evE.eq_19, L3.evE.eq_20, L3.evE.eq_21, L3.evA, L3.evP, Law.evS_whlR, Law.evS_frR, Law.evE_lcR, Law.evS_frpR, Law.evE_lcpR, L3.walkP, L3.walkD, L3.unfzO, L3.unfz, Law.frR_nil, Law.frR_cons, Law.lcR_nil, Law.lcR_cons, L3.argOf, L3.Rs.bind, L3.opFin, L3.avDs, L3.avD, L3.vDs, L3.Op.keeps, L3.Op.run, L3.i1, L3.i2, L3.a1, L3.a2, L3.l1, L3.gd, L3.oB, L3.oI, L3.toB, L3.toI, L3.rdVar, L3.mvVar, L3.stVar, L3.stR, L3.stTg, L3.stVars, L3.stVarsO, L3.passA, L3.backA, L3.doCall, L3.cellOf, L3.start3, Law.outs1, Law.outs2, Law.outs3, Law.outs4, L3.resOf, L3.runFn, L3.keepB, L3.Ow.isB, L3.Ow.isOwn, L3.isTys, L3.isTy, L3.itFin, L3.ItK.run, L3.kRng1, L3.kRng2, L3.kSeq, L3.seqD, L3.seqD2, L3.kEnm, L3.enmD, Law.fit_of, Law.fit3, L3.noEr, L3.slFin, L3.slice3, L3.shE, L3.Tg.slots, L3.wipeE, L3.restE, L3.asB, Law.sz0, Law.sz1, Law.sz2, L3.rAdd3, L3.rLen3, L3.rLt3, L3.rIdx3, Law.at30, Law.at31, Law.at32, Law.at20, Law.at21, L3.isNone, Law.eqD_int, Law.md0, Law.md1, Law.md2, Law.md3, Law.md4, Law.md5, Law.md6, Law.md7, Law.md8, Law.md9, Law.md10, Law.md11, Law.md12, Law.md13, Law.md14, Law.md15, Law.md16, Law.md17, Law.md18, Law.md19, Law.md20, Law.md21, Law.md22, Law.md23, Law.md24, Law.md25, lv, hT]
  unfold Ps
  rw [evS_frR, ea]
  simp only [Rs.bind, it2]
  exact f
theorem q4 (L : List Nat) (most : Nat) (hm : most ≤ 2000) (c9 : Cell) (k9 : okO c9) : ∃ c9', okO c9' ∧ Ps WN C (mdOf tb) (lv sc h c2 c3 (some (.sh, .int (most : Int))) c5 (some (.sh, .lst (bitsL L (most + 1)))) c7 (some (.sh, .tup ((mkL L (most + 1)).map D.int))) c9 c10 c11 c12 c13) S4 (lv sc h c2 c3 (some (.sh, .int (most : Int))) c5 (some (.sh, .lst (bitsL L (most + 1)))) c7 (some (.sh, .tup ((mkL L (most + 1)).map D.int))) c9' c10 c11 c12 c13) := by
  obtain ⟨en', e1, c9', k9', e2⟩ := frR_rng (w := WN) (C := C) (md := mdOf tb) (tg := .nm 9) (b := F25_1)
    (fun K en => ∃ c9, okO c9 ∧ en = lv sc h c2 c3 (some (.sh, .int (most : Int))) c5 (some (.sh, .lst (bitsL L (most + 1)))) c7 (some (.sh, .tup ((mkL L (most + 1)).map D.int))) c9 c10 c11 c12 c13) most 1 _ ⟨c9, k9, rfl⟩ (by
    intro K hK1 hK en ⟨c9, k9, e⟩
    subst e
    have f := lcR_fil (C := C) (md := mdOf tb) (vs := [14]) (tg := .nm 14) (c := L25_2c) (e := L25_2) (en0 := lv sc h c2 c3 (some (.sh, .int (most : Int))) c5 (some (.sh, .lst (bitsL L (most + 1)))) c7 (some (.sh, .tup ((mkL L (most + 1)).map D.int))) (some (.sh, .int (K : Int))) c10 c11 c12 c13) (selD fun x => gb L (K - x)) (valD (mv L)) (rngI 0 (K + 1)) [] (by
      intro d hd
      obtain ⟨X, rfl, k0, k1⟩ := mem_rngI hd
      obtain ⟨x, rfl⟩ : ∃ x : Nat, X = x := ⟨X.toNat, by omega⟩
      have e : (K : Int) - (x : Int) = ((K - x : Nat) : Int) := by omega
      have hb : atI (bitsL L (most + 1)) ((K - x : Nat) : Int) = some (.bl (gb L (K - x))) := L3.atI_nat (bitsL_get L (by omega))
      have hv : atI ((mkL L (most + 1)).map D.int) (x : Int) = some (.int (mv L x)) := L3.atI_nat (by rw [List.getElem?_map, mkL_get L (by omega)]; rfl)
      obtain ⟨g1, g2⟩ := s4_item C sc h c2 c3 (some (.sh, .int (most : Int))) c5 c7 c10 c11 c12 c13 _ _ K x _ _ _ e hb hv
      refine ⟨_, rfl, ?_, fun _ => ⟨false, ?_⟩, rfl⟩
      · exact g1
      · exact g2) (by rw [rngI_len]; exact sz_of (by show 0 + (K + 1) ≤ _; omega))
    rw [List.nil_append, sel_rng] at f
    have hT : ((K : Int) + 1).toNat = K + 1 := by omega
    have := s4_turn C sc h c2 c3 (some (.sh, .int (most : Int))) c5 c7 c10 c11 c12 c13 _ _ _ (rngI 0 (K + 1)) _ K ((K : Int) + 1) c9 k9 rfl (inB_of (by omega) (by omega)) (by rw [hT]) (asI_int _) (conv (L := L) (N := K) (by omega)) f
    exact ⟨_, this, some (.sh, .int (K : Int)), okO_sh, rfl⟩)
  subst e2
  rw [rng1_eq] at e1
  refine ⟨c9', k9', ?_⟩
  exact q4_run C sc h c2 c3 c5 c7 c10 c11 c12 c13 (some (.sh, .lst (bitsL L (most + 1)))) (some (.sh, .tup ((mkL L (most + 1)).map D.int))) c9 c9' most ((most : Int) + 1) (rngI 1 most) rfl (it_1T most (by omega)) e1
end
theorem two_of : ∀ {L : List Nat}, L.length = 2 → ∃ a b, L = [a, b]
  | [a, b], _ => ⟨a, b, rfl⟩
theorem vc_one : VC [1] := ⟨by simp, fun c hc => by rw [List.mem_singleton.mp hc]; omega, by simp, by simp, ⟨1, by simp, by omega⟩, rfl⟩
abbrev C6 : CR := callD tb WN 6
theorem law_turn (sc : D) {h : D} (H : Hd h) (k : Int) (c2 c3 c4 c5 c6 c7 c8 c9 c10 c11 c12 c13 : Cell) (k2 : okO c2) (k3 : okO c3) (k4 : okO c4) (k5 : okO c5) (k6 : okO c6) (k7 : okO c7) (k8 : okO c8) (k9 : okO c9) (k10 : okO c10) (k11 : okO c11) (k12 : okO c12) (k13 : okO c13) :
    ∃ h' c3' c4' c5' c6' c7' c8' c9' c10' c11' c12' c13', Hd h' ∧ okO c3' ∧ okO c4' ∧ okO c5' ∧ okO c6' ∧ okO c7' ∧ okO c8' ∧ okO c9' ∧ okO c10' ∧ okO c11' ∧ okO c12' ∧ okO c13' ∧
      ((stR (stTg (.nm 2) (.int k) false (lv sc h c2 c3 c4 c5 c6 c7 c8 c9 c10 c11 c12 c13))).bind fun _ en => evSs WN C6 (mdOf tb) F25_0 en) = .ok .nx (lv sc h' (some (.sh, .int k)) c3' c4' c5' c6' c7' c8' c9' c10' c11' c12' c13') := by
  obtain ⟨h1, L0, H1, v0, l0, e1⟩ := c_drawn 3 H
  obtain ⟨h2, x, H2, hx, e2⟩ := any_of 4 (xs := [.tup (intN L0), .tup (intN L0), .tup (intN L0), .tup (intN L0), .tup (intN L0), .tup [.int 1]]) H1 (by show 0 < 6; decide) (by show 6 < 1073741824; decide)
  obtain ⟨L, rfl, vc, hL⟩ : ∃ L, x = .tup (intN L) ∧ VC L ∧ ∀ c ∈ L, c ≤ 13 := by
    simp only [List.mem_cons, List.not_mem_nil, or_false] at hx
    rcases hx with rfl | rfl | rfl | rfl | rfl | rfl
    · exact ⟨L0, rfl, v0, l0⟩
    · exact ⟨L0, rfl, v0, l0⟩
    · exact ⟨L0, rfl, v0, l0⟩
    · exact ⟨L0, rfl, v0, l0⟩
    · exact ⟨L0, rfl, v0, l0⟩
    · exact ⟨[1], rfl, vc_one, fun c hc => by rw [List.mem_singleton.mp hc]; omega⟩
  obtain ⟨h3, r, H3, r0, r1, e3⟩ := draw_sm 5 101 H2 (by decide) (by decide)
  obtain ⟨most, rfl⟩ : ∃ m : Nat, r = m := ⟨r.toNat, by omega⟩
  have hm : most ≤ 100 := by omega
  have hpos : ∀ c ∈ L, 0 < c := fun c hc => (vc.rng c hc).1
  obtain ⟨o, so, e4⟩ := c_system 1 vc
  have e5 := c_bits 5 false (.tup (intN L)) L most (.inr ⟨rfl, rfl⟩) (by have := vc.len; omega) hpos (by omega)
  have e6 := c_marks 5 L most (by omega)
  have e7 := c_order 3 so most (by omega)
  have e8 := same_ints 4 (mkL L (most + 1)) (by rw [mkL_len]; omega)
  obtain ⟨h4, q, H4, q0', q1', e9⟩ := draw_sm 5 ((most : Int) + 1) H3 (by omega) (by omega)
  obtain ⟨less, rfl⟩ : ∃ m : Nat, q = m := ⟨q.toNat, by omega⟩
  have e10 := c_order 3 so less (by omega)
  have ecut : cut ((mkL L (most + 1)).map D.int) none (some ((less : Int) + 1)) = (mkL L (less + 1)).map D.int := by
    have : (less : Int) + 1 = ((less + 1 : Nat) : Int) := by omega
    rw [this, cut_take _ _ (by rw [List.length_map, mkL_len]; omega), ← List.map_take, mkL_take L (less + 1) (most + 1) (by omega)]
  have eqq : ∀ N, eqD (.lst ((mkL L N).map D.int)) (.lst ((mkL L N).map D.int)) = some true := fun N => by rw [eqD_lst, decide_eq_true rfl]
  obtain ⟨h5, b, H5, hb, e11⟩ := any_of 4 (xs := menuB) H4 (by decide) (by decide)
  obtain ⟨h6, d, H6, hd, e12⟩ := c_odd 3 H5
  obtain ⟨h7, z, H7, hz, e13⟩ := any_of 4 (xs := [.non, .int 0, .str "system", .lst [o], .dct [] [], .tup (intN L), d]) H6 (by show 0 < 7; decide) (by show 7 < 1073741824; decide)
  have nz : ntS z := by
    simp only [List.mem_cons, List.not_mem_nil, or_false] at hz
    rcases hz with rfl | rfl | rfl | rfl | rfl | rfl | rfl <;> first | exact hd | trivial
  have e14 := e_sys 4 b nz
  obtain ⟨ns, xs, eo⟩ := isys_ty so
  have e15 := e_num 3 ns xs hb
  rw [← eo] at e15
  have w1 := c_word_s 5
  have w2 := c_word_n 5
  have s0 := q0 C6 sc h (some (.sh, .int k)) c3 c4 c5 c6 c7 c8 c9 c10 c11 c12 c13 h2 h3 (.tup (intN L)) most k3 k4 (q0a C6 sc h _ c3 c4 c5 c6 c7 c8 c9 c10 c11 c12 c13 h1 h2 _ _ e1 e2) (q0b C6 sc h2 _ c3 c4 c5 c6 c7 c8 c9 c10 c11 c12 c13 h3 most e3)
  have s1 := q1 C6 sc h3 (some (.sh, .int k)) c5 c6 c7 c8 c9 c10 c11 c12 c13 o (.tup (intN L)) (bitsL L (most + 1)) most k5 k6 e4 e5
  have s2 := q2 C6 sc h3 (some (.sh, .int k)) c7 c8 c9 c10 c11 c12 c13 o (.tup (intN L)) (bitsL L (most + 1)) ((mkL L (most + 1)).map D.int) ((mkL L (most + 1)).map D.int) most k7 k8 e6 e7
  have s3 := q3 C6 sc h3 (some (.sh, .int k)) (some (.sh, .tup (intN L))) (some (.sh, .int (most : Int))) (some (.sh, o)) (some (.sh, .lst (bitsL L (most + 1)))) c9 c10 c11 c12 c13 ((mkL L (most + 1)).map D.int) e8
  obtain ⟨c9', k9', s4⟩ := q4 C6 sc h3 (some (.sh, .int k)) (some (.sh, .tup (intN L))) (some (.sh, o)) (some (.sh, .lst ((mkL L (most + 1)).map D.int))) c10 c11 c12 c13 L most (by omega) c9 k9
  have s5 : Ps WN C6 (mdOf tb) (lv sc h3 (some (.sh, .int k)) (some (.sh, .tup (intN L))) (some (.sh, .int (most : Int))) (some (.sh, o)) (some (.sh, .lst (bitsL L (most + 1)))) (some (.sh, .lst ((mkL L (most + 1)).map D.int))) (some (.sh, .tup ((mkL L (most + 1)).map D.int))) c9' c10 c11 c12 c13) S5 (lv sc h3 (some (.sh, .int k)) (some (.sh, .tup (intN L))) (some (.sh, .int (most : Int))) (some (.sh, o)) (some (.sh, .lst (bitsL L (most + 1)))) (some (.sh, .lst ((mkL L (most + 1)).map D.int))) (some (.sh, .tup ((mkL L (most + 1)).map D.int))) c9' c10 c11 c12 c13) := by
    by_cases h2 : L.length = 2
    · obtain ⟨a, b', rfl⟩ : ∃ a b, L = [a, b] := two_of h2
      have ha := vc.rng a (by simp)
      have hb' := vc.rng b' (by simp)
      have ha2 := hL a (by simp)
      have hb2 := hL b' (by simp)
      have hg : Nat.gcd a b' = 1 := by
        have := vc.g
        have e : gcdL [a, b'] = Nat.gcd a (Nat.gcd b' 0) := rfl
        rw [e, Nat.gcd_zero_right] at this
        exact this
      have et := c_two 5 a b' most (by omega) (by omega) (by omega) (by omega) (by omega) hg
      exact q5y C6 sc h3 (some (.sh, .int k)) (some (.sh, o)) (some (.sh, .lst (bitsL [a, b'] (most + 1)))) (some (.sh, .tup ((mkL [a, b'] (most + 1)).map D.int))) c9' c10 c11 c12 c13 _ a b' most et (eqq _)
    · exact q5n C6 sc h3 (some (.sh, .int k)) (some (.sh, o)) (some (.sh, .lst (bitsL L (most + 1)))) (some (.sh, .tup ((mkL L (most + 1)).map D.int))) c9' c10 c11 c12 c13 (intN L) _ most (L.length : Int) (by rw [intN_len]) (by omega)
  have s6 := q6 C6 sc h3 (some (.sh, .int k)) (some (.sh, .tup (intN L))) (some (.sh, o)) (some (.sh, .lst (bitsL L (most + 1)))) (some (.sh, .lst ((mkL L (most + 1)).map D.int))) (some (.sh, .tup ((mkL L (most + 1)).map D.int))) c9' c10 c11 c12 c13 h4 most ((most : Int) + 1) less k10 rfl e9
  have s7 := q7 C6 sc h4 (some (.sh, .int k)) (some (.sh, .tup (intN L))) (some (.sh, .int (most : Int))) (some (.sh, .lst (bitsL L (most + 1)))) (some (.sh, .tup ((mkL L (most + 1)).map D.int))) c9' c11 c12 c13 o ((mkL L (most + 1)).map D.int) ((mkL L (less + 1)).map D.int) less ((less : Int) + 1) rfl e10 ecut (eqq _)
  have s8 := q8 C6 sc h4 (some (.sh, .int k)) (some (.sh, .tup (intN L))) (some (.sh, .int (most : Int))) (some (.sh, o)) (some (.sh, .lst (bitsL L (most + 1)))) (some (.sh, .lst ((mkL L (most + 1)).map D.int))) (some (.sh, .tup ((mkL L (most + 1)).map D.int))) c9' (some (.sh, .int (less : Int))) c11 c12 c13 h5 b k11 e11
  have s9 := q9 C6 sc h5 (some (.sh, .int k)) (some (.sh, .int (most : Int))) (some (.sh, .lst (bitsL L (most + 1)))) (some (.sh, .lst ((mkL L (most + 1)).map D.int))) (some (.sh, .tup ((mkL L (most + 1)).map D.int))) c9' (some (.sh, .int (less : Int))) (some (.sh, b)) c12 c13 h6 h7 o (.tup (intN L)) d z k12 e12 e13
  have s10 := q10 C6 sc h7 (some (.sh, .int k)) (some (.sh, .tup (intN L))) (some (.sh, .int (most : Int))) (some (.sh, .lst (bitsL L (most + 1)))) (some (.sh, .lst ((mkL L (most + 1)).map D.int))) (some (.sh, .tup ((mkL L (most + 1)).map D.int))) c9' (some (.sh, .int (less : Int))) c13 o z b k13 e14 w1
  have s11 := q11 C6 sc h7 (some (.sh, .int k)) (some (.sh, .tup (intN L))) (some (.sh, .int (most : Int))) (some (.sh, .lst (bitsL L (most + 1)))) (some (.sh, .lst ((mkL L (most + 1)).map D.int))) (some (.sh, .tup ((mkL L (most + 1)).map D.int))) c9' (some (.sh, .int (less : Int))) o z b e15 w2
  have s12 := q12 C6 sc h7 (some (.sh, .int k)) (some (.sh, .tup (intN L))) (some (.sh, .int (most : Int))) (some (.sh, o)) (some (.sh, .lst (bitsL L (most + 1)))) (some (.sh, .lst ((mkL L (most + 1)).map D.int))) (some (.sh, .tup ((mkL L (most + 1)).map D.int))) c9' (some (.sh, .int (less : Int))) (some (.sh, b)) (some (.sh, z))
  have est : stTg (.nm 2) (.int k) false (lv sc h c2 c3 c4 c5 c6 c7 c8 c9 c10 c11 c12 c13) = some (lv sc h (some (.sh, .int k)) c3 c4 c5 c6 c7 c8 c9 c10 c11 c12 c13) := stV (en := lv sc h c2 c3 c4 c5 c6 c7 c8 c9 c10 c11 c12 c13) (i := 2) rfl k2 (.int k) false
  refine ⟨h7, some (.sh, .tup (intN L)), some (.sh, .int (most : Int)), some (.sh, o), some (.sh, .lst (bitsL L (most + 1))), some (.sh, .lst ((mkL L (most + 1)).map D.int)), some (.sh, .tup ((mkL L (most + 1)).map D.int)), c9', some (.sh, .int (less : Int)), some (.sh, b), some (.sh, z), some (.own, .lst [.str "system", .str "number"]), H7, okO_sh, okO_sh, okO_sh, okO_sh, okO_sh, okO_sh, k9', okO_sh, okO_sh, okO_sh, okO_ow, ?_⟩
  rw [est]
  exact (ss_step s0).trans ((ss_step s1).trans ((ss_step s2).trans ((ss_step s3).trans ((ss_step s4).trans ((ss_step s5).trans ((ss_step s6).trans ((ss_step s7).trans ((ss_step s8).trans ((ss_step s9).trans ((ss_step s10).trans ((ss_step s11).trans ((ss_step s12).trans ss_nilU))))))))))))
@[reducible] def B25_0 : S := (.asg (.nm 1) (.call 13 (.cons (.pk 0) .nil)))
@[reducible] def B25_1 : S := (.fr (.nm 2) .rng1 (.cons (.cst (.int 3)) .nil) F25_0)
@[reducible] def B25_2 : S := (.ret (.cst (.bl true)))
theorem plain (ns : List Int) (hn : ns.length ≤ 63) : ∃ outs, callD tb WN 7 25 [(false, .fls (ns.map D.int))] = .ok (.bl true) false outs := by
  refine ⟨[none], ?_⟩
  rw [u25]
  let sc : D := .fls (ns.map D.int)
  obtain ⟨h0, H0, e0⟩ := c_hand 5 ns hn
  have q0 : ([some (.sh, sc), none, none, none, none, none, none, none, none, none, none, none, none, none, none] : En)[0]? = some (some (.sh, sc)) := rfl
  have e1 : evE C6 (mdOf tb) (.call 13 (.cons (.pk 0) .nil)) [some (.sh, sc), none, none, none, none, none, none, none, none, none, none, none, none, none, none] = .ok (h0, true) [some (.sh, sc), none, none, none, none, none, none, none, none, none, none, none, none, none, none] :=
    evE_callU (evA_consU (arg_pk q0) evA_nilU) rfl e0 rfl
  have s0 : Ps WN C6 (mdOf tb) [some (.sh, sc), none, none, none, none, none, none, none, none, none, none, none, none, none, none] B25_0 (lv sc h0 none none none none none none none none none none none none) := ps_asgU e1 rfl
  obtain ⟨en2, f1, f2⟩ := frR_inv (w := WN) (C := C6) (md := mdOf tb) (tg := .nm 2) (b := F25_0) (fun en => ∃ h c2 c3 c4 c5 c6 c7 c8 c9 c10 c11 c12 c13, Hd h ∧ okO c2 ∧ okO c3 ∧ okO c4 ∧ okO c5 ∧ okO c6 ∧ okO c7 ∧ okO c8 ∧ okO c9 ∧ okO c10 ∧ okO c11 ∧ okO c12 ∧ okO c13 ∧ en = lv sc h c2 c3 c4 c5 c6 c7 c8 c9 c10 c11 c12 c13) (rngI 0 3) (lv sc h0 none none none none none none none none none none none none) ⟨h0, none, none, none, none, none, none, none, none, none, none, none, none, H0, .inl rfl, .inl rfl, .inl rfl, .inl rfl, .inl rfl, .inl rfl, .inl rfl, .inl rfl, .inl rfl, .inl rfl, .inl rfl, .inl rfl, rfl⟩ (by
    intro d hd en ⟨h, c2, c3, c4, c5, c6, c7, c8, c9, c10, c11, c12, c13, H, k2, k3, k4, k5, k6, k7, k8, k9, k10, k11, k12, k13, e⟩
    subst e
    obtain ⟨K, rfl, _, _⟩ := mem_rngI hd
    obtain ⟨h', c3', c4', c5', c6', c7', c8', c9', c10', c11', c12', c13', H', k3', k4', k5', k6', k7', k8', k9', k10', k11', k12', k13', e⟩ := law_turn sc H K c2 c3 c4 c5 c6 c7 c8 c9 c10 c11 c12 c13 k2 k3 k4 k5 k6 k7 k8 k9 k10 k11 k12 k13
    exact ⟨_, e, h', some (.sh, .int K), c3', c4', c5', c6', c7', c8', c9', c10', c11', c12', c13', H', okO_sh, k3', k4', k5', k6', k7', k8', k9', k10', k11', k12', k13', rfl⟩)
  have s1 : Ps WN C6 (mdOf tb) (lv sc h0 none none none none none none none none none none none none) B25_1 en2 := by
    have i3 : inB 3 = true := by decide
    have ei : ∀ en : En, itFin .rng1 [.v (.int 3)] en = .ok (rngI 0 3) en := fun en => it_rng1 i3
    unfold Ps
    rw [evS_frR, evA_consU (arg_e pe_cst) evA_nilU]
    simp only [Rs.bind, ei]
    exact f1
  obtain ⟨h, c2, c3, c4, c5, c6, c7, c8, c9, c10, c11, c12, c13, _, _, _, _, _, _, _, _, _, _, _, _, _, rfl⟩ := f2
  have e5 := (ss_step (ss := .cons B25_1 (.cons B25_2 .nil)) s0).trans ((ss_step s1).trans (ss_ret (ss := .nil) (pe_cst (d := .bl true))))
  exact (congrArg (resOf 1) e5).trans rfl
end Law

theorem PySem.Challenge.cw_paidornot_k53_whole_marks_of_order_holds : PySem.Challenge.rw_paidornot_k53_whole_marks_of_order.Holds := by
  exact Law.from_plain 7 20000 (by decide) Law.plain

