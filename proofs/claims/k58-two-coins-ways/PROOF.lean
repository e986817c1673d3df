import PyProof.Rows.All
import Wide.All
import OpenK.AllK
import Wide.FinOn
import HandS.ForMost
import HandS.Lambda
import HandS.Zip
import HandS.List
import KE.GoesEnum
import PyProof.EnumMake
import PyProof.WalkInts
import HandS.TupAny
import HandS.TupLe
import HandS.TupMul
import HandS.IsInst
import HandS.Wide
import HandS.SortInts
import HandS.Rev
import HandS.Conv
import HandS.Style
import HandS.ForExc
import HandS.Deep
import HandS.SetFor
import HandS.ExcIs
import HandS.ExcField
import HandS.ExcInit
import KE.KExcIs
import HandS.Defaults
import HandS.HeadHook4
import HandS.HeadWalk
import HandS.WordsExc
import KE.KStateDown
import HandS.Head0
import HandS.Head1
import HandS.Head2
import HandS.TupSets
import HandS.CallLocal
import KE.KDflt
import PySem.Challenge.RW_paidornot_k58_whole_two_coins_ways
set_option Elab.async false
set_option linter.all false
set_option maxRecDepth 100000
set_option maxHeartbeats 0
set_option exponentiation.threshold 500000
/-! L3A: data by value, slots with owners, a small language and its evaluator. -/
namespace L3
open PySem PySem.Spec PyProof.Rows L2

/-- data by value -/
inductive D where
  | non | bl (b : Bool) | int (i : Int) | str (s : Str)
  | tup (xs : List D) | lst (xs : List D)
  | fls (xs : List D)
  | dct (ks : List Key) (xs : List D)
  | set (xs : List Int)
  | obj (c : Nat) (ns : List Str) (xs : List D)
  | exc (c : Nat) (ns : List Str) (xs : List D)
  | thk (ok : Bool) (d : D)
deriving Inhabited

mutual
/-- as the data of the library's == -/
def toPy : D → Option PyData
  | .non => some .none
  | .bl b => some (.bool b)
  | .int i => some (.int i)
  | .str s => some (.str s)
  | .tup xs => match toPys xs with | some ps => some (.tuple ps) | none => none
  | .lst xs => match toPys xs with | some ps => some (.list ps) | none => none
  | _ => none
def toPys : List D → Option (List PyData)
  | [] => some []
  | x :: xs => match toPy x, toPys xs with | some p, some ps => some (p :: ps) | _, _ => none
end
def eqD (a b : D) : Option Bool := match toPy a, toPy b with
  | some p, some q => if SeqAt.shaped p && SeqAt.shaped q then some (PyData.eqv p q) else none
  | _, _ => none

/-- own: made here; brw: the caller's, lent; brs: lent, and shared since; sh: shared -/
inductive Ow where | sh | own | brw | brs
deriving DecidableEq
def Ow.isOwn : Ow → Bool | .own => true | .brw => true | _ => false
def Ow.isB : Ow → Bool | .brw => true | .brs => true | _ => false
abbrev Cell := Option (Ow × D)
abbrev En := List Cell
structure Ex where
  c : Nat
  ns : List Str
  xs : List D
inductive Rs (α : Type) where
  | ok (a : α) (en : En) | er (x : Ex) (en : En) | bad
@[reducible] def Rs.bind {α β : Type} (r : Rs α) (f : α → En → Rs β) : Rs β := match r with
  | .ok a en => f a en
  | .er x en => .er x en
  | .bad => .bad
/-- an argument: a value, or a slot that is looked at when the thing is done -/
inductive Av where | v (d : D) | p (i : Nat)
inductive CRes where
  | ok (d : D) (own : Bool) (outs : List Cell) | er (x : Ex) (outs : List Cell) | bad

inductive Ty where | int | bool | str | tup | lst | dct | cls (c : Nat)
deriving DecidableEq
inductive Op where
  | add | sub | mul | fdiv | mod | pow | shl | shr | band | bor | bxor | neg
  | eq | ne | lt | le | gt | ge | isN | notN | inn | nin
  | idx | tup | lst
  | len | abs | int | sum | sum2 | min | max | min2 | max2 | any | all | srt | tupOf | lstOf | rngL
  | isi (ts : List Ty) | fld (f : Str) | count | index | str
  | dnew | dget2 | setOf | lenSet | glb (d : D) | rep
  | isx (cs : List Nat) | fldx (f : Str) | revs | isb | nsb | dsp1 (k : Key) | srtS
inductive Mt where | app | ext | pop | popAt | seti | clear
inductive ItK where | seq | rng1 | rng2 | rng3 | zip | enm | rev
inductive Tg where | nm (i : Nat) | tp (is : List Nat) | tpt (i : Nat) (is : List Nat)

mutual
inductive E where
  | cst (d : D) | var (i : Nat) | mv (i : Nat) | pk (i : Nat)
  | op (o : Op) (as : Es)
  | sl0 (a : E) | slA (a l : E) | slB (a h : E) | slC (a l h : E)
  | and (a b : E) | or (a b : E) | ite (c a b : E) | nt (a : E)
  | chn (o1 o2 : Op) (a b c : E)
  | call (f : Nat) (as : Es)
  | mk (c f : Nat) (as : Es)
  | lc (vs : List Nat) (tg : Tg) (k : ItK) (as : Es) (c : E) (e : E)
  | mt (m : Mt) (i : Nat) (as : Es)
  | mth (o : Op) (x a : E)
  | lam (f : Nat) (e : E)
  | cl (i : Nat) (fs : List Nat) (as : Es)
inductive Es where
  | nil | cons (e : E) (es : Es)
end
mutual
inductive S where
  | asg (tg : Tg) (e : E)
  | par (is : List Nat) (as : Es)
  | ex (e : E)
  | seti (i : Nat) (v ix : E)
  | setf (f : Str) (i : Nat) (v : E)
  | ife (c : E) (a b : Ss)
  | whl (c : E) (b : Ss)
  | fr (tg : Tg) (k : ItK) (as : Es) (b : Ss)
  | ret (e : E) | pass | brk | cnt
  | rse (c : Nat) (ns : List Str) (as : Es)
  | tryw (ci ei : Nat) (cs : List Nat) (b : Ss)
inductive Ss where
  | nil | cons (s : S) (ss : Ss)
end
def esL : List E → Es | [] => .nil | e :: es => .cons e (esL es)
def ssL : List S → Ss | [] => .nil | s :: ss => .cons s (ssL ss)
@[reducible] def E.o0 (o : Op) : E := .op o .nil
@[reducible] def E.o1 (o : Op) (a : E) : E := .op o (.cons a .nil)
@[reducible] def E.o2 (o : Op) (a b : E) : E := .op o (.cons a (.cons b .nil))
@[reducible] def E.o3 (o : Op) (a b c : E) : E := .op o (.cons a (.cons b (.cons c .nil)))

/-! ### values -/
def cut {α : Type} (xs : List α) (lo hi : Option Int) : List α := (xs.drop (HT.sIx xs.length 0 lo)).take (HT.sIx xs.length xs.length hi - HT.sIx xs.length 0 lo)
def fit (n : Nat) : Bool := decide (n ≤ sizeLine)
instance (i j : Int) : Decidable (CMul i j) := inferInstanceAs (Decidable ((-(2 ^ 64) < i ∧ i < 2 ^ 64) ∨ (-(2 ^ 64) < j ∧ j < 2 ^ 64)))
instance (i j : Int) : Decidable (CDiv i j) := inferInstanceAs (Decidable (0 < j ∧ j < 1073741824))
instance (i j : Int) : Decidable (CPow i j) := inferInstanceAs (Decidable (0 ≤ j ∧ j ≤ 1000000 ∧ i.natAbs < 2 ^ 64))
def mulOk (i j : Int) : Bool := decide (CMul i j) || decide (i.natAbs.log2 + j.natAbs.log2 < 1000000)
def divOk (i j : Int) : Bool := decide (CDiv i j) || decide (0 < j ∧ j.natAbs.log2 < 9000)
def ltI : D → D → Option Bool
  | .int i, .int j => some (decide (i < j))
  | _, _ => none
def ltL (f : D → D → Option Bool) : List D → List D → Option Bool
  | [], ys => some (!ys.isEmpty)
  | _ :: _, [] => some false
  | x :: xs, y :: ys => (match eqD x y, ltL f xs ys with
    | some true, some r => some r
    | some false, some _ => f x y
    | _, _ => none)
/-- tuples within tuples: n deep -/
def ltD : Nat → D → D → Option Bool
  | 0, d, e => ltI d e
  | n + 1, d, e => (match d, e with
    | .tup xs, .tup ys => ltL (ltD n) xs ys
    | _, _ => ltI d e)
def asI : List D → Option (List Int)
  | [] => some []
  | .int i :: r => match asI r with | some is => some (i :: is) | none => none
  | _ => none
def asB : List D → Option (List Bool)
  | [] => some []
  | .bl b :: r => match asB r with | some bs => some (b :: bs) | none => none
  | _ => none
def minL : List Int → Option Int
  | [] => none
  | a :: r => match minL r with | none => some a | some b => some (if a ≤ b then a else b)
def maxL : List Int → Option Int
  | [] => none
  | a :: r => match maxL r with | none => some a | some b => some (if b ≤ a then a else b)
def insI (a : Int) : List Int → List Int
  | [] => [a]
  | b :: r => if a ≤ b then a :: b :: r else b :: insI a r
def sortI : List Int → List Int
  | [] => []
  | a :: r => insI a (sortI r)
def flatD : D → Bool
  | .non => true | .bl _ => true | .int _ => true | .str _ => true | _ => false
def inP (x y : D) : Option Bool := match toPy x, toPy y with
  | some q, some (.list qs) => if SeqAt.shaped (.list qs) && SeqAt.shaped q then some (qs.any fun z => PyData.eqv z q) else none
  | some q, some (.tuple qs) => if SeqAt.shaped (.tuple qs) && SeqAt.shaped q then some (qs.any fun z => PyData.eqv z q) else none
  | _, _ => none
def idxP : List PyData → PyData → Option Nat
  | [], _ => none
  | z :: r, q => if PyData.eqv z q then some 0 else (idxP r q).map (· + 1)
def isTy : Ty → D → Option Bool
  | .int, .int _ => some true | .int, .bl _ => some true
  | .bool, .bl _ => some true
  | .str, .str _ => some true
  | .tup, .tup _ => some true
  | .lst, .lst _ => some true
  | .dct, .dct _ _ => some true
  | .cls c, .obj c' _ _ => some (decide (c = c'))
  | _, .fls _ => none | _, .set _ => none | _, .exc _ _ _ => none | _, .thk _ _ => none
  | _, _ => some false
def isTys : List Ty → D → Option Bool
  | [], d => some false
  | t :: ts, d => match isTy t d, isTys ts d with | some a, some b => some (a || b) | _, _ => none
def rngI (a : Int) (n : Nat) : List D := (List.range n).map fun (k : Nat) => D.int (a + (k : Int))
def rngC (a c : Int) (n : Nat) : List D := (List.range n).map fun (k : Nat) => D.int (a + (k : Int) * c)
def inB (i : Int) : Bool := decide (-(2 ^ 62) ≤ i ∧ i < 2 ^ 62)
abbrev Rn := Option (D × Bool)
def i1 (f : Int → Rn) : List D → Rn | [.int i] => f i | _ => none
def i2 (f : Int → Int → Rn) : List D → Rn | [.int i, .int j] => f i j | _ => none
def a1 (f : D → Rn) : List D → Rn | [d] => f d | _ => none
def a2 (f : D → D → Rn) : List D → Rn | [d, e] => f d e | _ => none
def l1 (f : List D → Rn) : List D → Rn | [.lst xs] => f xs | _ => none
def oB (r : Option Bool) : Rn := match r with | some b => some (.bl b, false) | none => none
def oI (r : Option Int) : Rn := match r with | some i => some (.int i, false) | none => none
def gd (c : Bool) (r : D × Bool) : Rn := if c then some r else none
def rAdd3 : List D → Rn
  | [.int i, .int j] => some (.int (i + j), false)
  | [.tup xs, .tup ys] => gd (fit (xs.length + ys.length)) (.tup (xs ++ ys), false)
  | [.lst xs, .lst ys] => gd (fit (xs.length + ys.length)) (.lst (xs ++ ys), true)
  | [.str a, .str b] => gd (fit (a.length + b.length)) (.str (a ++ b), false)
  | _ => none
def rRep3 : List D → Rn
  | [.lst xs, .int k] => gd (decide (-(2 ^ 63) ≤ k ∧ k < 2 ^ 63) && fit (xs.length * k.toNat)) (.lst ((List.replicate k.toNat xs).flatten), true)
  | [.tup xs, .int k] => gd (decide (2 ≤ k ∧ k ≤ 1000 ∧ xs.length ≤ 1000 ∧ 0 < xs.length)) (.tup ((List.replicate k.toNat xs).flatten), false)
  | _ => none
def rLt3 : List D → Rn
  | [.int i, .int j] => some (.bl (decide (i < j)), false)
  | [.tup xs, .tup ys] => oB (ltD 3 (.tup xs) (.tup ys))
  | _ => none
def seqD2 : D → Option (List D)
  | .tup xs => some xs | .lst xs => some xs | _ => none
def rIdx3 : List D → Rn
  | [.tup xs, .int i] => (match atI xs i with | some d => some (d, false) | none => none)
  | [.lst xs, .int i] => (match atI xs i with | some d => some (d, false) | none => none)
  | _ => none
def slice3 (x : D) (lo hi : Option Int) : Rn := match x with
  | .tup xs => some (.tup (cut xs lo hi), false)
  | .lst xs => some (.lst (cut xs lo hi), true)
  | .fls xs => some (.lst (cut xs lo hi), true)
  | _ => none
def rRev3 : D → Rn
  | .tup xs => some (.tup xs.reverse, false)
  | .lst xs => some (.lst xs.reverse, true)
  | .fls xs => some (.lst xs.reverse, true)
  | _ => none
/-- ascending, each once -/
def insS (a : Int) : List Int → List Int
  | [] => [a]
  | b :: r => if a < b then a :: b :: r else if a = b then b :: r else b :: insS a r
def sortS : List Int → List Int
  | [] => []
  | a :: r => insS a (sortS r)
def rSrtS (d : D) : Option (D × Bool) := match seqD2 d with
  | some xs => (match asI xs with
    | some is => if is.length < 64 then some (.lst ((sortS is).map D.int), true) else none
    | none => none)
  | none => none
def rLen3 : D → Rn
  | .tup xs => some (.int xs.length, false)
  | .lst xs => some (.int xs.length, false)
  | .fls xs => some (.int xs.length, false)
  | _ => none
def isNone : D → Bool | .non => true | _ => false
def fldD (f : Str) : D → Rn
  | .obj _ ns xs => (match (ns.zip xs).lookup f with | some d => some (d, false) | none => none)
  | _ => none
def fldX (f : Str) : D → Rn
  | .exc _ ns xs => (match (ns.zip xs).lookup f with | some d => some (d, false) | none => none)
  | _ => none
def isX (cs : List Nat) : D → Rn
  | .exc c _ _ => some (.bl (cs.contains c), false)
  | _ => none
def Op.run (o : Op) (ds : List D) : Rn := match o with
  | .glb d => (match ds with | [] => some (d, false) | _ => none)
  | .add => rAdd3 ds
  | .sub => i2 (fun i j => some (.int (i - j), false)) ds
  | .mul => i2 (fun i j => gd (mulOk i j) (.int (i * j), false)) ds
  | .rep => rRep3 ds
  | .fdiv => i2 (fun i j => gd (divOk i j) (.int (i / j), false)) ds
  | .mod => i2 (fun i j => gd (decide (0 < j)) (.int (i % j), false)) ds
  | .pow => i2 (fun i j => gd (decide (CPow i j)) (.int (i ^ j.toNat), false)) ds
  | .shl => i2 (fun i j => gd (decide (CPow i j)) (.int (i * 2 ^ j.toNat), false)) ds
  | .shr => i2 (fun i j => gd (decide (0 ≤ j)) (.int (i / 2 ^ j.toNat), false)) ds
  | .band => i2 (fun i j => some (.int (Builtin.bitAnd i j), false)) ds
  | .bor => i2 (fun i j => some (.int (Builtin.bitOr i j), false)) ds
  | .bxor => i2 (fun i j => some (.int (Builtin.bitXor i j), false)) ds
  | .neg => i1 (fun i => some (.int (-i), false)) ds
  | .eq => a2 (fun a b => oB (eqD a b)) ds
  | .ne => a2 (fun a b => oB ((eqD a b).map (! ·))) ds
  | .lt => rLt3 ds
  | .le => i2 (fun i j => some (.bl (decide (i ≤ j)), false)) ds
  | .gt => i2 (fun i j => some (.bl (decide (j < i)), false)) ds
  | .ge => i2 (fun i j => some (.bl (decide (j ≤ i)), false)) ds
  | .isN => a1 (fun d => some (.bl (isNone d), false)) ds
  | .notN => a1 (fun d => some (.bl (!isNone d), false)) ds
  | .inn => a2 (fun x y => oB (inP x y)) ds
  | .nin => a2 (fun x y => oB ((inP x y).map (! ·))) ds
  | .idx => rIdx3 ds
  | .tup => gd (fit ds.length) (.tup ds, false)
  | .lst => gd (fit ds.length) (.lst ds, true)
  | .len => a1 rLen3 ds
  | .revs => a1 rRev3 ds
  | .srtS => a1 rSrtS ds
  | .dsp1 k => a1 (fun d => some (.dct [k] [d], true)) ds
  | .isb => (match ds with | [.bl a, .bl b] => some (.bl (decide (a = b)), false) | _ => none)
  | .nsb => (match ds with | [.bl a, .bl b] => some (.bl (!decide (a = b)), false) | _ => none)
  | .abs => i1 (fun i => some (.int (if i < 0 then -i else i), false)) ds
  | .int => i1 (fun i => some (.int i, false)) ds
  | .sum => l1 (fun xs => oI ((asI xs).map List.sum)) ds
  | .min => l1 (fun xs => oI ((asI xs).bind minL)) ds
  | .max => a1 (fun d => match seqD2 d with | some xs => oI ((asI xs).bind maxL) | none => none) ds
  | .min2 => i2 (fun i j => some (.int (if j < i then j else i), false)) ds
  | .max2 => i2 (fun i j => some (.int (if j > i then j else i), false)) ds
  | .any => l1 (fun xs => oB ((asB xs).map fun bs => bs.any id)) ds
  | .all => l1 (fun xs => oB ((asB xs).map fun bs => bs.all id)) ds
  | .srt => l1 (fun xs => match asI xs with | some is => some (.lst ((sortI is).map D.int), true) | none => none) ds
  | .tupOf => a1 (fun d => match seqD2 d with | some xs => some (.tup xs, false) | none => none) ds
  | .lstOf => a1 (fun d => match seqD2 d with | some xs => some (.lst xs, true) | none => none) ds
  | .isi ts => a1 (fun d => oB (isTys ts d)) ds
  | .fld f => a1 (fldD f) ds
  | .dnew => (match ds with | [] => some (.dct [] [], true) | _ => none)
  | .isx cs => a1 (isX cs) ds
  | .fldx f => a1 (fldX f) ds
  | .count => a2 (fun x y => match toPy x, toPy y with
    | some (.list qs), some q => if SeqAt.shaped (.list qs) && SeqAt.shaped q then some (.int ((qs.countP fun z => PyData.eqv z q : Nat) : Int), false) else none
    | _, _ => none) ds
  | .index => a2 (fun x y => match toPy x, toPy y with
    | some (.list qs), some q => if SeqAt.shaped (.list qs) && SeqAt.shaped q then oI ((idxP qs q).map fun n => (n : Int)) else none
    | _, _ => none) ds
  | _ => none
/-- the thing behind, and what is told -/
def Mt.run : Mt → D → List D → Option (D × D)
  | .app, .lst xs, [y] => if decide (xs.length < sizeLine) then some (.lst (xs ++ [y]), .non) else none
  | .ext, .lst xs, [.lst ys] => if fit (xs.length + ys.length) then some (.lst (xs ++ ys), .non) else none
  | .pop, .lst xs, [] => match xs[xs.length - 1]? with | some y => some (.lst xs.dropLast, y) | none => none
  | .popAt, .lst xs, [.int i] => if decide (-(2 ^ 63) ≤ i ∧ i < 2 ^ 63) then (match ixN xs.length i with | some k => (match xs[k]? with | some y => some (.lst (xs.eraseIdx k), y) | none => none) | none => none) else none
  | .seti, .lst xs, [y, .int i] => match ixN xs.length i with | some k => some (.lst (xs.set k y), .non) | none => none
  | .clear, .lst xs, [] => some (.lst [], .non)
  | _, _, _ => none
def zipD : List D → List D → List D
  | x :: xs, y :: ys => .tup [x, y] :: zipD xs ys
  | _, _ => []
def seqD : D → Option (List D)
  | .tup xs => some xs | .lst xs => some xs | .fls xs => some xs | _ => none
def enmD : Nat → List D → List D
  | _, [] => []
  | n, x :: xs => .tup [.int n, x] :: enmD (n + 1) xs
def kSeq : List D → Option (List D) | [x] => seqD x | _ => none
def kRng1 : List D → Option (List D) | [.int j] => if inB j then some (rngI 0 j.toNat) else none | _ => none
def kRng2 : List D → Option (List D) | [.int i, .int j] => if inB i && inB j then some (rngI i (j - i).toNat) else none | _ => none
def rgOk (i j c : Int) : Bool := decide (c ≠ 0 ∧ c.natAbs < 1073741824) && Builtin.Range.small i j c && decide (0 ≤ Builtin.Range.rangeSize i j c)
def kRng3 : List D → Option (List D) | [.int i, .int j, .int c] => if rgOk i j c then some (rngC i c (Builtin.Range.rangeSize i j c).toNat) else none | _ => none
def kZip : List D → Option (List D)
  | [.lst xs, .lst ys] => some (zipD xs ys)
  | [.tup xs, .tup ys] => some (zipD xs ys)
  | _ => none
def kEnm : List D → Option (List D)
  | [.lst xs] => some (enmD 0 xs)
  | [.tup xs] => some (enmD 0 xs)
  | _ => none
def kRev : List D → Option (List D)
  | [.lst xs] => some xs.reverse
  | [.tup xs] => some xs.reverse
  | _ => none
def ItK.run (k : ItK) (ds : List D) : Option (List D) := match k with
  | .seq => kSeq ds | .rng1 => kRng1 ds | .rng2 => kRng2 ds | .rng3 => kRng3 ds | .zip => kZip ds | .enm => kEnm ds | .rev => kRev ds

/-! ### slots -/
def rdVar (i : Nat) (en : En) : Rs (D × Bool) := match en[i]? with
  | some (some (.sh, d)) => .ok (d, false) en
  | some (some (.brs, d)) => .ok (d, false) en
  | some (some (.own, d)) => .ok (d, false) (en.set i (some (.sh, d)))
  | some (some (.brw, d)) => .ok (d, false) (en.set i (some (.brs, d)))
  | _ => .bad
def mvVar (i : Nat) (en : En) : Rs (D × Bool) := match en[i]? with
  | some (some (.own, d)) => .ok (d, true) (en.set i none)
  | _ => rdVar i en
/-- a slot is stored -/
def stVar (i : Nat) (d : D) (own : Bool) (en : En) : Option En := match en[i]? with
  | none => none
  | some (some (.brw, _)) => none
  | some (some (.brs, _)) => none
  | _ => some (en.set i (some (if own then .own else .sh, d)))
def stVars : List Nat → List D → En → Option En
  | [], [], en => some en
  | i :: is, d :: ds, en => (match stVar i d false en with | some en => stVars is ds en | none => none)
  | _, _, _ => none
def stVarsO : List Nat → List (D × Bool) → En → Option En
  | [], [], en => some en
  | i :: is, p :: ps, en => (match stVar i p.1 p.2 en with | some en => stVarsO is ps en | none => none)
  | _, _, _ => none
def stTg : Tg → D → Bool → En → Option En
  | .nm i, d, own, en => stVar i d own en
  | .tp is, .tup ds, false, en => stVars is ds en
  | .tpt i is, .tup [d, .tup ds], false, en => (match stVar i d false en with | some en => stVars is ds en | none => none)
  | _, _, _, _ => none
def Tg.slots : Tg → List Nat
  | .nm i => [i] | .tp is => is | .tpt i is => i :: is
def stR : Option En → Rs Unit
  | some en => .ok () en | none => .bad
/-- where no error may leave -/
def noEr {α : Type} : Rs α → Rs α
  | .ok a en => .ok a en | _ => .bad
def avD (en : En) : Av → Option D
  | .v d => some d
  | .p i => match en[i]? with | some (some (_, d)) => some d | _ => none
def avDs (en : En) : List Av → Option (List D)
  | [] => some []
  | a :: as => match avD en a, avDs en as with | some d, some ds => some (d :: ds) | _, _ => none
def argOf (e : E) (r : Rs (D × Bool)) (en : En) : Rs Av := match e with
  | .pk i => match en[i]? with | some (some _) => .ok (.p i) en | _ => .bad
  | _ => r.bind fun p en => .ok (.v p.1) en
/-- how arguments are handed to a def: lent, or shared -/
def passA : List Bool → List Av → List Nat → En → Option (List (Bool × D))
  | [], [], _, _ => some []
  | _ :: ms, .v d :: as, us, en => match passA ms as us en with | some r => some ((false, d) :: r) | none => none
  | m :: ms, .p i :: as, us, en => match en[i]? with
    | some (some (ow, d)) =>
      if ow.isOwn then
        (if m && !us.contains i then (match passA ms as (i :: us) en with | some r => some ((true, d) :: r) | none => none) else none)
      else (match passA ms as us en with | some r => some ((false, d) :: r) | none => none)
    | _ => none
  | _, _, _, _ => none
/-- .. and come back -/
def backA : List Av → List (Bool × D) → List Cell → En → Option En
  | [], [], _, en => some en
  | .p i :: as, (true, _) :: gs, o :: os, en => match en[i]?, o with
    | some (some (ow, _)), some (ow', d) =>
      if ow' = .brw then backA as gs os (en.set i (some (ow, d)))
      else if ow' = .brs then backA as gs os (en.set i (some (if ow = .brw then .brs else .sh, d)))
      else none
    | _, _ => none
  | _ :: as, (false, _) :: gs, _ :: os, en => backA as gs os en
  | _, _, _, _ => none
/-- arguments that are kept: none that is only looked at -/
def vDs : List Av → Option (List D)
  | [] => some []
  | .v d :: as => match vDs as with | some ds => some (d :: ds) | none => none
  | .p _ :: _ => none
def Op.keeps : Op → Bool
  | .tup => true | .lst => true | .dsp1 _ => true | _ => false
def opFin (o : Op) (avs : List Av) (en : En) : Rs (D × Bool) := match (if o.keeps then vDs avs else avDs en avs) with
  | none => .bad
  | some ds => match o.run ds with | some p => .ok p en | none => .bad
def itFin (k : ItK) (avs : List Av) (en : En) : Rs (List D) := match vDs avs with
  | none => .bad
  | some ds => match k.run ds with | some items => .ok items en | none => .bad
def slFin (lo hi : Option Int) (a : Av) (en : En) : Rs (D × Bool) := match avD en a with
  | none => .bad
  | some d => match slice3 d lo hi with | some p => .ok p en | none => .bad
/-- what a method's thing must be -/
def mtPre (d : D) : Bool := match d with | .lst _ => true | _ => false
def mtAt (i : Nat) (en : En) : Bool := match en[i]? with | some (some (ow, d)) => ow.isOwn && mtPre d | _ => false
def mtFin (m : Mt) (i : Nat) (avs : List Av) (en : En) : Rs (D × Bool) := match vDs avs, en[i]? with
  | some ds, some (some (ow, d)) => if ow.isOwn then (match m.run d ds with
      | some (d', r) => .ok (r, false) (en.set i (some (ow, d')))
      | none => .bad) else .bad
  | _, _ => .bad
def fldSet (f : Str) (d : D) : List Str → List D → List Str × List D
  | n :: ns, x :: xs => if n = f then (n :: ns, d :: xs) else (match fldSet f d ns xs with | (ns, xs) => (n :: ns, x :: xs))
  | _, _ => ([f], [d])
def keepB (c : Cell) : Cell := match c with
  | some (ow, d) => if ow.isB then some (ow, d) else none
  | none => none
def wipeE (en : En) : List Nat → En
  | [] => en
  | v :: vs => (wipeE en vs).set v none
def shE (en : En) (v : Nat) : Bool := match en[v]? with
  | some none => true
  | some (some (.sh, _)) => true
  | _ => false
def restE (en0 en : En) : List Nat → En
  | [] => en
  | v :: vs => (restE en0 en vs).set v ((en0[v]?).getD none)

inductive Fl where | nx | br | ct | rt (d : D) (own : Bool)
mutual
/-- no exception within -/
def noX : D → Bool
  | .tup xs => noXs xs | .lst xs => noXs xs | .fls xs => noXs xs | .dct _ xs => noXs xs | .obj _ _ xs => noXs xs
  | .exc _ _ _ => false
  | _ => true
def noXs : List D → Bool
  | [] => true
  | x :: xs => noX x && noXs xs
end
def noXf : Fl → Bool
  | .rt d _ => noX d | _ => true
def noXc : Cell → Bool
  | some (_, d) => noX d | none => true

def stfFin (f : Str) (i : Nat) (x : Av) (en : En) : Rs Fl := match x, en[i]? with
  | .v d, some (some (ow, .obj c ns xs)) => if ow.isOwn && decide (ns.length < 1000) then .ok .nx (en.set i (some (ow, .obj c (fldSet f d ns xs).1 (fldSet f d ns xs).2))) else .bad
  | _, _ => .bad
/-! ### the evaluator: w bounds the turns of a while; C calls a def -/
def loopF (f : D → En → Rs Fl) : List D → En → Rs Fl
  | [], en => .ok .nx en
  | d :: ds, en => (f d en).bind fun fl en => match fl with
    | .nx => loopF f ds en
    | .ct => loopF f ds en
    | .br => .ok .nx en
    | .rt d o => .ok (.rt d o) en
def loopW (c : En → Rs Bool) (b : En → Rs Fl) : Nat → En → Rs Fl
  | 0, _ => .bad
  | n + 1, en => (c en).bind fun k en => if k then (b en).bind fun fl en => match fl with
      | .nx => loopW c b n en
      | .ct => loopW c b n en
      | .br => .ok .nx en
      | .rt d o => .ok (.rt d o) en
    else .ok .nx en
def loopC (vs : List Nat) (tg : Tg) (c : En → Rs Bool) (f : En → Rs (D × Bool)) : List D → List D → En → Rs (List D)
  | [], acc, en => .ok acc en
  | d :: ds, acc, en => (stR (stTg tg d false en)).bind fun _ en => (noEr (c en)).bind fun k en =>
      if k then (noEr (f en)).bind fun p en => if decide (acc.length < sizeLine) then loopC vs tg c f ds (acc ++ [p.1]) (wipeE en vs) else .bad
      else loopC vs tg c f ds acc (wipeE en vs)
def toI (r : Rs (D × Bool)) : Rs Int := r.bind fun p en => match p.1 with | .int b => .ok b en | _ => .bad
def toB (r : Rs (D × Bool)) : Rs Bool := r.bind fun p en => match p.1 with | .bl b => .ok b en | _ => .bad

section
variable (w : Nat) (C : Nat → List (Bool × D) → CRes) (md : Nat → List Bool)
def doCall (f : Nat) (avs : List Av) (en : En) : Rs (D × Bool) := match passA (md f) avs [] en with
  | none => .bad
  | some args => match C f args with
    | .bad => .bad
    | .ok d own outs => (match backA avs args outs en with | some en => .ok (d, own) en | none => .bad)
    | .er x outs => (match backA avs args outs en with | some en => .er x en | none => .bad)
def mkFin (c f : Nat) (avs : List Av) (en : En) : Rs (D × Bool) := match vDs avs with
  | none => .bad
  | some ds => match C f ((true, .obj c [] []) :: ds.map fun d => (false, d)) with
    | .ok .non _ (some (.brw, d) :: _) => .ok (d, true) en
    | .ok .non _ (some (.brs, d) :: _) => .ok (d, false) en
    | .er x _ => .er x en
    | _ => .bad
mutual
def evE : E → En → Rs (D × Bool)
  | .cst d, en => .ok (d, false) en
  | .var i, en => rdVar i en
  | .mv i, en => mvVar i en
  | .pk _, _ => .bad
  | .op o as, en => (evA as en).bind (opFin o)
  | .sl0 a, en => (argOf a (evE a en) en).bind fun x en => slFin none none x en
  | .slA a l, en => (argOf a (evE a en) en).bind fun x en => (toI (evE l en)).bind fun i en => slFin (some i) none x en
  | .slB a h, en => (argOf a (evE a en) en).bind fun x en => (toI (evE h en)).bind fun j en => slFin none (some j) x en
  | .slC a l h, en => (argOf a (evE a en) en).bind fun x en => (toI (evE l en)).bind fun i en => (toI (evE h en)).bind fun j en => slFin (some i) (some j) x en
  | .and a b, en => (toB (evE a en)).bind fun k en => if k then evE b en else .ok (.bl false, false) en
  | .or a b, en => (toB (evE a en)).bind fun k en => if k then .ok (.bl true, false) en else evE b en
  | .ite c a b, en => (toB (evE c en)).bind fun k en => if k then evE a en else evE b en
  | .nt a, en => (toB (evE a en)).bind fun k en => .ok (.bl (!k), false) en
  | .chn o1 o2 a b c, en => (argOf a (evE a en) en).bind fun x en => (argOf b (evE b en) en).bind fun y en =>
    (toB (opFin o1 [x, y] en)).bind fun k en => if k then (argOf c (evE c en) en).bind fun z en => opFin o2 [y, z] en else .ok (.bl false, false) en
  | .call f as, en => (evA as en).bind (doCall C md f)
  | .mk c f as, en => (evA as en).bind (mkFin C c f)
  | .lc vs tg k as c e, en => (evA as en).bind fun avs en => (itFin k avs en).bind fun items en => if vs.all (shE en) && tg.slots.all vs.contains then
      (loopC vs tg (fun en => toB (evE c en)) (fun en => evE e en) items [] (wipeE en vs)).bind fun xs en' => .ok (.lst xs, true) (restE en en' vs)
    else .bad
  | .mth o x a, en => (argOf x (evE x en) en).bind fun x en => if (avD en x).any mtPre then (argOf a (evE a en) en).bind fun y en => opFin o [x, y] en else .bad
  | .mt m i as, en => if mtAt i en then (evA as en).bind (mtFin m i) else .bad
  | .lam f e, en => match evE e en with
    | .ok p en => (match C f [(false, .thk true p.1)] with | .ok d own _ => .ok (d, own) en | _ => .bad)
    | .er x en => (match C f [(false, .thk false (.exc x.c x.ns x.xs))] with | .ok d own _ => .ok (d, own) en | _ => .bad)
    | .bad => .bad
  | .cl i fs as, en => match en[i]? with
    | some (some (ow, .set [m])) => if !ow.isOwn && fs.contains m.toNat then (evA as en).bind (doCall C md m.toNat) else .bad
    | _ => .bad
def evA : Es → En → Rs (List Av)
  | .nil, en => .ok [] en
  | .cons e es, en => (argOf e (evE e en) en).bind fun a en => (evA es en).bind fun as en => .ok (a :: as) en
end
def evP : Es → En → Rs (List (D × Bool))
  | .nil, en => .ok [] en
  | .cons e es, en => (evE C md e en).bind fun p en => (evP es en).bind fun ps en => .ok (p :: ps) en
mutual
def evS : S → En → Rs Fl
  | .asg tg e, en => (evE C md e en).bind fun p en => (stR (stTg tg p.1 p.2 en)).bind fun _ en => .ok .nx en
  | .par is as, en => (evP C md as en).bind fun ps en => (stR (stVarsO is ps en)).bind fun _ en => .ok .nx en
  | .ex e, en => (evE C md e en).bind fun _ en => .ok .nx en
  | .seti i v ix, en => (argOf v (evE C md v en) en).bind fun x en => if mtAt i en then (argOf ix (evE C md ix en) en).bind fun y en => (mtFin .seti i [x, y] en).bind fun _ en => .ok .nx en else .bad
  | .setf f i v, en => (argOf v (evE C md v en) en).bind fun x en => stfFin f i x en
  | .ife c a b, en => (toB (evE C md c en)).bind fun k en => if k then evSs a en else evSs b en
  | .whl c b, en => loopW (fun en => toB (evE C md c en)) (fun en => evSs b en) w en
  | .fr tg k as b, en => (evA C md as en).bind fun avs en => (itFin k avs en).bind fun items en => loopF (fun d en => (stR (stTg tg d false en)).bind fun _ en => evSs b en) items en
  | .ret e, en => (evE C md e en).bind fun p en => .ok (.rt p.1 p.2) en
  | .pass, en => .ok .nx en
  | .brk, en => .ok .br en
  | .cnt, en => .ok .ct en
  | .rse c ns as, en => (evA C md as en).bind fun avs en => match vDs avs with
    | some ds => .er ⟨c, ns, ds⟩ en
    | none => .bad
  | .tryw ci ei cs b, en => match en[ci]? with
    | some (some (_, .thk true _)) => .ok .nx en
    | some (some (_, .thk false (.exc c ns xs))) => if cs.contains c then
        (match evSs b ((List.replicate en.length none).set ei (some (.sh, .exc c ns xs))) with
          | .ok fl en => if noXf fl && (en.set ei none).all noXc then .ok fl (en.set ei none) else .bad
          | _ => .bad) else .bad
    | _ => .bad
def evSs : Ss → En → Rs Fl
  | .nil, en => .ok .nx en
  | .cons s ss, en => (evS s en).bind fun fl en => match fl with
    | .nx => evSs ss en
    | .br => .ok .br en
    | .ct => .ok .ct en
    | .rt d o => .ok (.rt d o) en
end
end

/-- a def: its parameters' number, its slots' number, how parameters are lent, its body -/
structure Fn where
  np : Nat
  nn : Nat
  md : List Bool
  body : Ss
def cellOf : Bool × D → Cell := fun p => some (if p.1 then .brw else .sh, p.2)
def start3 (nn : Nat) (args : List (Bool × D)) : En := args.map cellOf ++ List.replicate (nn - args.length) none
/-- what is told of the parameters behind the call -/
def outsOf (np : Nat) (en : En) : List Cell := (List.range np).map fun i => keepB ((en[i]?).getD none)
def resOf (np : Nat) : Rs Fl → CRes
  | .ok .nx en => .ok .non false (outsOf np en)
  | .ok (.rt d o) en => .ok d o (outsOf np en)
  | .er x en => .er x (outsOf np en)
  | _ => .bad
def runFn (w : Nat) (C : Nat → List (Bool × D) → CRes) (md : Nat → List Bool) (fn : Fn) (args : List (Bool × D)) : CRes :=
  if args.length = fn.np then resOf fn.np (evSs w C md fn.body (start3 fn.nn args)) else .bad
def mdOf (T : List Fn) (f : Nat) : List Bool := match T[f]? with | some fn => fn.md | none => []
/-- a call, at most n deep -/
def callD (T : List Fn) (w : Nat) : Nat → Nat → List (Bool × D) → CRes
  | 0, _, _ => .bad
  | n + 1, f, args => match T[f]? with
    | some fn => runFn w (callD T w n) (mdOf T) fn args
    | none => .bad
end L3

/-! L3B: what data stand for in the abstract heap; the separation of a state. -/
namespace L3
open PySem PySem.Spec PyProof.Rows L2

/-- the written part, the classes' addresses, the tables of code objects -/
structure Wd where
  K : PySem.W.Frag
  ca : Nat → Addr
  T : List (Addr × Str)
  ok : Nat → Prop
  /-- the thing handed in that is called; the exception that is looked at -/
  th : Addr → Prop
  ex : Addr → Nat → Option Addr → Prop
  xk : Nat → Prop
  /-- the defs as values -/
  fv : Nat → Addr → Prop

mutual
inductive Rep (Y : Wd) (G : Hp) : V → D → Prop
  | non : Rep Y G .non .non
  | bl (b : Bool) : Rep Y G (.bl b) (.bl b)
  | int (i : Int) : Rep Y G (.int i) (.int i)
  | str (s : Str) : Rep Y G (.str s) (.str s)
  | tup {a : Addr} {vs : List V} {ds : List D} : SqT Y.K G a vs → RepL Y G vs ds → Rep Y G (.ref a) (.tup ds)
  | lst {a : Addr} {vs : List V} {ds : List D} : G a = some (.lst vs) → RepL Y G vs ds → Rep Y G (.ref a) (.lst ds)
  | fls {a : Addr} {vs : List V} {ds : List D} : SqL Y.K G a vs → RepL Y G vs ds → Rep Y G (.ref a) (.fls ds)
  | dct {a : Addr} {kvs : List (Key × V)} {ks : List Key} {ds : List D} : G a = some (.dK kvs) → kvs.map (·.1) = ks → RepL Y G (kvs.map (·.2)) ds → Rep Y G (.ref a) (.dct ks ds)
  | obj {a dx : Addr} {c : Nat} {fs : List (Str × V)} {ns : List Str} {ds : List D} : Y.ok c → G a = some (.ins (Y.ca c) dx fs) → G dx = some (.own a) → fs.map (·.1) = ns → RepL Y G (fs.map (·.2)) ds → Rep Y G (.ref a) (.obj c ns ds)
  | thk {v : Addr} {b : Bool} {d : D} : Y.th v → Rep Y G (.ref v) (.thk b d)
  | fnv {a : Addr} {n : Nat} : Y.fv n a → Rep Y G (.ref a) (.set [(n : Int)])
  | exc0 {v : Addr} {c : Nat} : Y.ex v c none → Rep Y G (.ref v) (.exc c [] [])
  | exc1 {v : Addr} {c : Nat} {da : Addr} {fs : List (Str × V)} {ns : List Str} {ds : List D} : Y.ex v c (some da) → G da = some (.xd fs) → fs.map (·.1) = ns → RepL Y G (fs.map (·.2)) ds → Rep Y G (.ref v) (.exc c ns ds)
inductive RepL (Y : Wd) (G : Hp) : List V → List D → Prop
  | nil : RepL Y G [] []
  | cons {v : V} {vs : List V} {d : D} {ds : List D} : Rep Y G v d → RepL Y G vs ds → RepL Y G (v :: vs) (d :: ds)
end

theorem Same.seqT {K : PySem.W.Frag} {H H' : Hp} {a : Addr} {xs : List V} (e : Same H H') (h : SqT K H a xs) : SqT K H' a xs := by
  rcases h with (h | ⟨o, h⟩) | h
  · exact .inl (.inl (e _ _ h))
  · exact .inl (.inr ⟨o, e _ _ h⟩)
  · exact .inr h
section
variable {Y : Wd} {G G' : Hp}
mutual
theorem Rep.mono (s : Same G G') : ∀ {d : D} {v : V}, Rep Y G v d → Rep Y G' v d
  | .non, _, h => by cases h; exact .non
  | .bl b, _, h => by cases h; exact .bl b
  | .int i, _, h => by cases h; exact .int i
  | .str z, _, h => by cases h; exact .str z
  | .tup ds, _, h => by cases h with | tup h1 h2 => exact .tup (Same.seqT s h1) (RepL.mono s h2)
  | .lst ds, _, h => by cases h with | lst h1 h2 => exact .lst (s _ _ h1) (RepL.mono s h2)
  | .fls ds, _, h => by cases h with | fls h1 h2 => exact .fls (s.seq h1) (RepL.mono s h2)
  | .dct ks ds, _, h => by cases h with | dct h1 h2 h3 => exact .dct (s _ _ h1) h2 (RepL.mono s h3)
  | .obj c ns ds, _, h => by cases h with | obj h0 h1 h2 h3 h4 => exact .obj h0 (s _ _ h1) (s _ _ h2) h3 (RepL.mono s h4)
  | .set _, _, h => by cases h with | fnv h => exact .fnv h
  | .exc _ _ _, _, h => by
    cases h with
    | exc0 h => exact .exc0 h
    | exc1 h1 h2 h3 h4 => exact .exc1 h1 (s _ _ h2) h3 (RepL.mono s h4)
  | .thk _ _, _, h => by cases h with | thk h => exact .thk h
theorem RepL.mono (s : Same G G') : ∀ {ds : List D} {vs : List V}, RepL Y G vs ds → RepL Y G' vs ds
  | [], _, h => by cases h; exact .nil
  | d :: ds, _, h => by cases h with | cons h1 h2 => exact .cons (Rep.mono s h1) (RepL.mono s h2)
end
theorem RepL.length : ∀ {ds : List D} {vs : List V}, RepL Y G vs ds → vs.length = ds.length
  | [], _, h => by cases h; rfl
  | _ :: _, _, h => by cases h with | cons h1 h2 => simp [RepL.length h2]
theorem RepL.get : ∀ {ds : List D} {vs : List V} {i : Nat} {d : D}, RepL Y G vs ds → ds[i]? = some d → ∃ v, vs[i]? = some v ∧ Rep Y G v d
  | [], _, _, _, h, e => by simp at e
  | d :: ds, _, 0, x, h, e => by
    cases h with | cons h1 h2 =>
      simp at e; subst e; exact ⟨_, rfl, h1⟩
  | d :: ds, _, i + 1, x, h, e => by
    cases h with | cons h1 h2 =>
      simp at e
      obtain ⟨v, e1, e2⟩ := RepL.get h2 e
      exact ⟨v, by simpa using e1, e2⟩
theorem RepL.getV : ∀ {ds : List D} {vs : List V} {i : Nat} {v : V}, RepL Y G vs ds → vs[i]? = some v → ∃ d, ds[i]? = some d ∧ Rep Y G v d
  | [], _, _, _, h, e => by cases h; simp at e
  | d :: ds, _, 0, x, h, e => by
    cases h with | cons h1 h2 =>
      simp at e; subst e; exact ⟨_, rfl, h1⟩
  | d :: ds, _, i + 1, x, h, e => by
    cases h with | cons h1 h2 =>
      simp at e
      obtain ⟨v, e1, e2⟩ := RepL.getV h2 e
      exact ⟨v, by simpa using e1, e2⟩
theorem RepL.append : ∀ {ds es : List D} {vs us : List V}, RepL Y G vs ds → RepL Y G us es → RepL Y G (vs ++ us) (ds ++ es)
  | [], _, _, _, h, q => by cases h; exact q
  | _ :: _, _, _, _, h, q => by cases h with | cons h1 h2 => exact .cons h1 (RepL.append h2 q)
theorem RepL.take : ∀ {ds : List D} {vs : List V} (n : Nat), RepL Y G vs ds → RepL Y G (vs.take n) (ds.take n)
  | _, _, 0, _ => .nil
  | [], _, n + 1, h => by cases h; exact .nil
  | _ :: _, _, n + 1, h => by cases h with | cons h1 h2 => exact .cons h1 (RepL.take n h2)
theorem RepL.drop : ∀ {ds : List D} {vs : List V} (n : Nat), RepL Y G vs ds → RepL Y G (vs.drop n) (ds.drop n)
  | _, _, 0, h => h
  | [], _, n + 1, h => by cases h; exact .nil
  | _ :: _, _, n + 1, h => by cases h with | cons h1 h2 => exact RepL.drop n h2
theorem RepL.set : ∀ {ds : List D} {vs : List V} (n : Nat) {v : V} {d : D}, RepL Y G vs ds → Rep Y G v d → RepL Y G (vs.set n v) (ds.set n d)
  | [], _, n, _, _, h, q => by cases h; exact .nil
  | _ :: _, _, 0, _, _, h, q => by cases h with | cons h1 h2 => exact .cons q h2
  | _ :: _, _, n + 1, _, _, h, q => by cases h with | cons h1 h2 => exact .cons h1 (RepL.set n h2 q)
theorem RepL.eraseIdx : ∀ {ds : List D} {vs : List V} (n : Nat), RepL Y G vs ds → RepL Y G (vs.eraseIdx n) (ds.eraseIdx n)
  | [], _, n, h => by cases h; exact .nil
  | _ :: _, _, 0, h => by cases h with | cons h1 h2 => exact h2
  | _ :: _, _, n + 1, h => by cases h with | cons h1 h2 => exact .cons h1 (RepL.eraseIdx n h2)
theorem RepL.dropLast {ds : List D} {vs : List V} (h : RepL Y G vs ds) : RepL Y G vs.dropLast ds.dropLast := by
  rw [List.dropLast_eq_take, List.dropLast_eq_take, h.length]; exact h.take _
theorem RepL.reverse : ∀ {ds : List D} {vs : List V}, RepL Y G vs ds → RepL Y G vs.reverse ds.reverse
  | [], _, h => by cases h; exact .nil
  | _ :: _, _, h => by
    cases h with | cons h1 h2 =>
      rw [List.reverse_cons, List.reverse_cons]
      exact (RepL.reverse h2).append (.cons h1 .nil)
theorem RepL.asI : ∀ {ds : List D} {vs : List V} {is : List Int}, RepL Y G vs ds → asI ds = some is → vs = is.map V.int
  | [], _, _, h, e => by cases h; cases e; rfl
  | .int i :: ds, _, is, h, e => by
    cases h with | cons h1 h2 =>
      cases h1
      unfold L3.asI at e
      split at e
      · rename_i js e2
        cases e
        rw [RepL.asI h2 e2]; rfl
      · cases e
  | .non :: _, _, _, _, e => by cases e
  | .bl _ :: _, _, _, _, e => by cases e
  | .str _ :: _, _, _, _, e => by cases e
  | .tup _ :: _, _, _, _, e => by cases e
  | .lst _ :: _, _, _, _, e => by cases e
  | .fls _ :: _, _, _, _, e => by cases e
  | .dct _ _ :: _, _, _, _, e => by cases e
  | .set _ :: _, _, _, _, e => by cases e
  | .obj _ _ _ :: _, _, _, _, e => by cases e
  | .exc _ _ _ :: _, _, _, _, e => by cases e
  | .thk _ _ :: _, _, _, _, e => by cases e
theorem RepL.asB : ∀ {ds : List D} {vs : List V} {is : List Bool}, RepL Y G vs ds → asB ds = some is → vs = is.map V.bl
  | [], _, _, h, e => by cases h; cases e; rfl
  | .bl i :: ds, _, is, h, e => by
    cases h with | cons h1 h2 =>
      cases h1
      unfold L3.asB at e
      split at e
      · rename_i js e2
        cases e
        rw [RepL.asB h2 e2]; rfl
      · cases e
  | .non :: _, _, _, _, e => by cases e
  | .int _ :: _, _, _, _, e => by cases e
  | .str _ :: _, _, _, _, e => by cases e
  | .tup _ :: _, _, _, _, e => by cases e
  | .lst _ :: _, _, _, _, e => by cases e
  | .fls _ :: _, _, _, _, e => by cases e
  | .dct _ _ :: _, _, _, _, e => by cases e
  | .set _ :: _, _, _, _, e => by cases e
  | .obj _ _ _ :: _, _, _, _, e => by cases e
  | .exc _ _ _ :: _, _, _, _, e => by cases e
  | .thk _ _ :: _, _, _, _, e => by cases e
theorem RepL.ofInts : ∀ (is : List Int), RepL Y G (is.map V.int) (is.map D.int)
  | [] => .nil
  | _ :: r => .cons (.int _) (RepL.ofInts r)
end

/-! ### what is owned -/
/-- the thing at a as it stands, its parts shared -/
inductive Top (Y : Wd) (G H : Hp) : Addr → D → Prop
  | lst {a : Addr} {vs : List V} {ds : List D} : H a = some (.lst vs) → RepL Y G vs ds → Top Y G H a (.lst ds)
  | dct {a : Addr} {kvs : List (Key × V)} {ks : List Key} {ds : List D} : H a = some (.dK kvs) → kvs.map (·.1) = ks → RepL Y G (kvs.map (·.2)) ds → Top Y G H a (.dct ks ds)
  | obj {a dx : Addr} {c : Nat} {fs : List (Str × V)} {ns : List Str} {ds : List D} : Y.ok c → H a = some (.ins (Y.ca c) dx fs) → G dx = some (.own a) → fs.map (·.1) = ns → RepL Y G (fs.map (·.2)) ds → Top Y G H a (.obj c ns ds)
def isMut : HO → Bool
  | .lst _ => true | .dK _ => true | .ins _ _ _ => true | _ => false
theorem Top.at {Y : Wd} {G H : Hp} {a : Addr} {d : D} (t : Top Y G H a d) : ∃ o, H a = some o ∧ isMut o = true := by
  cases t with
  | lst h _ => exact ⟨_, h, rfl⟩
  | dct h _ _ => exact ⟨_, h, rfl⟩
  | obj _ h _ _ _ => exact ⟨_, h, rfl⟩
theorem Top.keep {Y : Wd} {G G' H H' : Hp} {a : Addr} {d : D} (t : Top Y G H a d) (s : Same G G') (e : H' a = H a) : Top Y G' H' a d := by
  cases t with
  | lst h q => exact .lst (e.trans h) (q.mono s)
  | dct h k q => exact .dct (e.trans h) k (q.mono s)
  | obj h0 h x k q => exact .obj h0 (e.trans h) (s _ _ x) k (q.mono s)
theorem Top.rep {Y : Wd} {G H : Hp} {a : Addr} {d : D} {o : HO} (t : Top Y G H a d) (s : Same G (upd G a o)) (e : H a = some o) : Rep Y (upd G a o) (.ref a) d := by
  cases t with
  | lst h q =>
    rw [e] at h; cases h
    exact .lst upd_same (q.mono s)
  | dct h k q =>
    rw [e] at h; cases h
    exact .dct upd_same k (q.mono s)
  | obj h0 h x k q =>
    rw [e] at h; cases h
    exact .obj h0 upd_same (s _ _ x) k (q.mono s)
structure OwnAt (Y : Wd) (G R H : Hp) (a : Addr) (d : D) : Prop where
  g : G a = none
  r : R a = none
  t : Top Y G H a d

theorem same_new {H : Hp} {p : Addr} {o : HO} (h : H p = none) : Same H (upd H p o) := fun b x e => by
  rw [upd_ne (ne_of_none e h)]; exact e
theorem same_upd2 {G H : Hp} {p : Addr} {o : HO} (s : Same G H) (h : H p = some o) : Same (upd G p o) H := fun b x e => by
  by_cases hb : b = p
  · subst hb; rw [upd_same] at e; cases e; exact h
  · rw [upd_ne hb] at e; exact s _ _ e
theorem same_upds {G H : Hp} {p : Addr} {o : HO} (s : Same G H) : Same (upd G p o) (upd H p o) := fun b x e => by
  by_cases hb : b = p
  · subst hb; rw [upd_same] at e ⊢; exact e
  · rw [upd_ne hb] at e ⊢; exact s _ _ e
theorem same_wr {G H : Hp} {p : Addr} {o : HO} (s : Same G H) (h : G p = none) : Same G (upd H p o) := fun b x e => by
  rw [upd_ne (ne_of_none e h)]; exact s _ _ e

/-! ### tables of code objects -/
abbrev Tb (Y : Wd) (H : Hp) : Prop := LamX.Tabs Y.T H
theorem Tb.new {Y : Wd} {H : Hp} {p : Addr} {o : HO} (t : Tb Y H) (h : H p = none) : Tb Y (upd H p o) := t.ext (same_new h)
theorem Tb.wr {Y : Wd} {H : Hp} {p : Addr} {o o' : HO} (t : Tb Y H) (h : H p = some o) (m : isMut o = true) : Tb Y (upd H p o') := fun q hq => by
  obtain ⟨ps, h1, h2, h3⟩ := t q hq
  have ne1 : q.1 ≠ p := fun z => by rw [z, h] at h1; cases h1; cases m
  refine ⟨ps, by rw [upd_ne ne1]; exact h1, h2, fun pos cv hc => ?_⟩
  obtain ⟨c, e1, e2⟩ := h3 pos cv hc
  refine ⟨c, e1, ?_⟩
  have ne2 : c ≠ p := fun z => by
    rw [z, h] at e2
    unfold LamX.CodeO at e2
    cases e2
    cases m
  rw [upd_ne ne2]; exact e2

theorem notT_mut {o : HO} (m : isMut o = true) (ps : Array Value) : o ≠ .tbl ps := fun z => by subst z; cases m
def NoT (G : Hp) : Prop := ∀ a ps, G a ≠ some (.tbl ps)
structure TbN (Y : Wd) (G R H : Hp) : Prop where
  t : Tb Y H
  g : NoT G
  r : NoT R
section
variable {Y : Wd} {G R H : Hp} {p : Addr} {o o' : HO}
theorem TbN.new (t : TbN Y G R H) (h : H p = none) : TbN Y G R (upd H p o) := ⟨t.t.new h, t.g, t.r⟩
theorem TbN.wr (t : TbN Y G R H) (h : H p = some o) (m : isMut o = true) : TbN Y G R (upd H p o') := ⟨t.t.wr h m, t.g, t.r⟩
theorem NoT.upd (g : NoT G) (n : ∀ ps, o ≠ .tbl ps) : NoT (L2.upd G p o) := fun a ps z => by
  by_cases ha : a = p
  · subst ha; rw [upd_same] at z; cases z; exact n _ rfl
  · rw [upd_ne ha] at z; exact g _ _ z
theorem TbN.upG (t : TbN Y G R H) (n : ∀ ps, o ≠ .tbl ps) : TbN Y (L2.upd G p o) R H := ⟨t.t, t.g.upd n, t.r⟩
theorem TbN.upR (t : TbN Y G R H) (n : ∀ ps, o ≠ .tbl ps) : TbN Y G (L2.upd R p o) H := ⟨t.t, t.g, t.r.upd n⟩
end
/-! ### the state apart: shared, reserved, owned by slots -/
def isOwnC : Option Cell → Bool
  | some (some (ow, _)) => ow.isOwn
  | _ => false
def isBC : Option Cell → Bool
  | some (some (ow, _)) => ow.isB
  | _ => false
structure Sep (Y : Wd) (G R H : Hp) (σ : L2.St) (en : En) : Prop where
  gH : Same G H
  rH : Same R H
  gr : ∀ a o, R a = some o → G a = none
  len : σ.length = en.length
  sh : ∀ (i : Nat) (ow : Ow) (d : D), en[i]? = some (some (ow, d)) → ow.isOwn = false → ∃ v, σ[i]? = some (some v) ∧ Rep Y G v d
  own : ∀ (i : Nat) (ow : Ow) (d : D), en[i]? = some (some (ow, d)) → ow.isOwn = true → ∃ a, σ[i]? = some (some (.ref a)) ∧ OwnAt Y G R H a d
  apart : ∀ (i j : Nat) (a : Addr), isOwnC en[i]? = true → isOwnC en[j]? = true → σ[i]? = some (some (.ref a)) → σ[j]? = some (some (.ref a)) → i = j
  tb : TbN Y G R H
/-- no slot owns what stands at a -/
def Free (σ : L2.St) (en : En) (a : Addr) : Prop := ∀ i : Nat, isOwnC en[i]? = true → σ[i]? ≠ some (some (.ref a))
/-- a value as the evaluator tells it -/
def Vok (Y : Wd) (G R H : Hp) (σ : L2.St) (en : En) (v : V) (d : D) : Bool → Prop
  | false => Rep Y G v d
  | true => ∃ a, v = .ref a ∧ OwnAt Y G R H a d ∧ Free σ en a
/-- the caller's things stay where they are -/
def Keep (σ : L2.St) (en : En) (σ' : L2.St) (en' : En) : Prop := ∀ i : Nat, isBC en'[i]? = isBC en[i]? ∧ (isBC en[i]? = true → σ'[i]? = σ[i]?)
theorem Keep.refl (σ : L2.St) (en : En) : Keep σ en σ en := fun _ => ⟨rfl, fun _ => rfl⟩
theorem Keep.trans {σ1 σ2 σ3 : L2.St} {e1 e2 e3 : En} (a : Keep σ1 e1 σ2 e2) (b : Keep σ2 e2 σ3 e3) : Keep σ1 e1 σ3 e3 := fun i => by
  obtain ⟨h1, h2⟩ := a i
  obtain ⟨h3, h4⟩ := b i
  exact ⟨h3.trans h1, fun h => (h4 (h1.trans h)).trans (h2 h)⟩
/-- an exception -/
def ExOk (Y : Wd) (G : Hp) (x : Ex) (cls : Value) (dd : Option Addr) : Prop :=
  Y.xk x.c ∧ cls = .ref (Y.ca x.c) ∧ ((x.ns = [] ∧ x.xs = [] ∧ dd = none) ∨ ∃ (da : Addr) (fs : List (Str × V)), dd = some da ∧ G da = some (.xd fs) ∧ fs.map (·.1) = x.ns ∧ RepL Y G (fs.map (·.2)) x.xs)
theorem ExOk.mono {Y : Wd} {G G' : Hp} {x : Ex} {cls : Value} {dd : Option Addr} (s : Same G G') (h : ExOk Y G x cls dd) : ExOk Y G' x cls dd := by
  obtain ⟨h0, h1, h2 | ⟨da, fs, e1, e2, e3, e4⟩⟩ := h
  · exact ⟨h0, h1, .inl h2⟩
  · exact ⟨h0, h1, .inr ⟨da, fs, e1, s _ _ e2, e3, e4.mono s⟩⟩

section
variable {Y : Wd} {G R H : Hp} {σ : L2.St} {en : En}
theorem isOwnC_of {i : Nat} {ow : Ow} {d : D} (e : en[i]? = some (some (ow, d))) : isOwnC en[i]? = ow.isOwn := by rw [e]; rfl
theorem isOwnC_get {i : Nat} (e : isOwnC en[i]? = true) : ∃ ow d, en[i]? = some (some (ow, d)) ∧ ow.isOwn = true := by
  unfold isOwnC at e
  split at e
  · rename_i ow d h; exact ⟨ow, d, h, e⟩
  · cases e
/-- a new thing, not yet shared -/
theorem Sep.new {p : Addr} {o : HO} (S : Sep Y G R H σ en) (h : H p = none) : Sep Y G R (upd H p o) σ en :=
  ⟨S.gH.trans (same_new h), S.rH.trans (same_new h), S.gr, S.len, S.sh, fun i ow d e k => by
    obtain ⟨a, e1, g, r, t⟩ := S.own i ow d e k
    obtain ⟨o', e2, _⟩ := t.at
    exact ⟨a, e1, g, r, t.keep (Same.refl G) (upd_ne (ne_of_none e2 h))⟩, S.apart, S.tb.new h⟩
theorem Sep.gnone (S : Sep Y G R H σ en) {p : Addr} (h : H p = none) : G p = none := S.gH.free h
theorem Sep.rnone (S : Sep Y G R H σ en) {p : Addr} (h : H p = none) : R p = none := S.rH.free h
theorem Sep.freeNew (S : Sep Y G R H σ en) {p : Addr} (h : H p = none) : Free σ en p := fun i e z => by
  obtain ⟨ow, d, e1, e2⟩ := isOwnC_get e
  obtain ⟨a, e3, q⟩ := S.own i ow d e1 e2
  rw [e3] at z; cases z
  obtain ⟨o, h1, _⟩ := q.t.at
  rw [h] at h1; cases h1
/-- the shared part grows by what nobody owns -/
theorem Sep.share {p : Addr} {o : HO} (S : Sep Y G R H σ en) (h : H p = some o) (g : G p = none) (r : R p = none) (f : Free σ en p) (n : ∀ ps, o ≠ .tbl ps := by intro _ z; cases z) : Sep Y (upd G p o) R H σ en :=
  ⟨same_upd2 S.gH h, S.rH, fun a o' e => by
    rw [upd_ne (ne_of_none e r)]; exact S.gr a o' e, S.len, fun i ow d e k => by
    obtain ⟨v, e1, q⟩ := S.sh i ow d e k
    exact ⟨v, e1, q.mono (same_new g)⟩, fun i ow d e k => by
    obtain ⟨a, e1, g', r', t⟩ := S.own i ow d e k
    have ne : a ≠ p := fun z => f i (by rw [e]; exact k) (by rw [e1, z])
    exact ⟨a, e1, by rw [upd_ne ne]; exact g', r', t.keep (same_new g) rfl⟩, S.apart, S.tb.upG n⟩
theorem Sep.newG {p : Addr} {o : HO} (S : Sep Y G R H σ en) (h : H p = none) (n : ∀ ps, o ≠ .tbl ps := by intro _ z; cases z) : Sep Y (upd G p o) R (upd H p o) σ en :=
  (S.new h).share upd_same (S.gnone h) (S.rnone h) (S.freeNew h) n
/-- what is new may be reserved -/
theorem Sep.reserve {p : Addr} {o : HO} (S : Sep Y G R H σ en) (h : H p = some o) (g : G p = none) (f : Free σ en p) (n : ∀ ps, o ≠ .tbl ps := by intro _ z; cases z) : Sep Y G (upd R p o) H σ en :=
  ⟨S.gH, same_upd2 S.rH h, fun a o' e => by
    by_cases hb : a = p
    · rw [hb]; exact g
    · rw [upd_ne hb] at e; exact S.gr a o' e, S.len, S.sh, fun i ow d e k => by
    obtain ⟨a, e1, g', r', t⟩ := S.own i ow d e k
    have ne : a ≠ p := fun z => f i (by rw [e]; exact k) (by rw [e1, z])
    exact ⟨a, e1, g', by rw [upd_ne ne]; exact r', t⟩, S.apart, S.tb.upR n⟩
theorem Sep.lessR {R' : Hp} (S : Sep Y G R' H σ en) (s : Same R R') : Sep Y G R H σ en :=
  ⟨S.gH, s.trans S.rH, fun a o e => S.gr a o (s _ _ e), S.len, S.sh, fun i ow d e k => by
    obtain ⟨a, e1, g', r', t⟩ := S.own i ow d e k
    exact ⟨a, e1, g', s.free r', t⟩, S.apart, ⟨S.tb.t, S.tb.g, fun a ps z => S.tb.r a ps (s _ _ z)⟩⟩
/-- a reserved thing is written -/
theorem Sep.wrR {p : Addr} {o o' : HO} (S : Sep Y G R H σ en) (h : R p = some o) (m : isMut o = true) (n : ∀ ps, o' ≠ .tbl ps := by intro _ z; cases z) : Sep Y G (upd R p o') (upd H p o') σ en :=
  ⟨same_wr S.gH (S.gr _ _ h), same_upds S.rH, fun a x e => by
    by_cases hb : a = p
    · rw [hb]; exact S.gr _ _ h
    · rw [upd_ne hb] at e; exact S.gr a x e, S.len, S.sh, fun i ow d e k => by
    obtain ⟨a, e1, g', r', t⟩ := S.own i ow d e k
    have ne : a ≠ p := fun z => by rw [z, h] at r'; cases r'
    exact ⟨a, e1, g', by rw [upd_ne ne]; exact r', t.keep (Same.refl G) (upd_ne ne)⟩, S.apart, (S.tb.wr (S.rH _ _ h) m).upR n⟩

theorem get_set_same {i : Nat} {c : Cell} (h : i < en.length) : (en.set i c)[i]? = some c := List.getElem?_set_self h
theorem get_set_ne {i j : Nat} {c : Cell} (h : i ≠ j) : (en.set i c)[j]? = en[j]? := List.getElem?_set_ne h
theorem lt_of_get {α : Type} {l : List α} {i : Nat} {x : α} (e : l[i]? = some x) : i < l.length := (List.getElem?_eq_some_iff.mp e).1
/-- an owned slot is shared from now on -/
theorem Sep.shareS {i : Nat} {ow ow' : Ow} {d : D} (S : Sep Y G R H σ en) (e : en[i]? = some (some (ow, d))) (k : ow.isOwn = true) (k' : ow'.isOwn = false) :
    ∃ a o, σ[i]? = some (some (.ref a)) ∧ Same G (upd G a o) ∧ Rep Y (upd G a o) (.ref a) d ∧ Sep Y (upd G a o) R H σ (en.set i (some (ow', d))) := by
  obtain ⟨a, e1, g, r, t⟩ := S.own i ow d e k
  obtain ⟨o, e2, mo⟩ := t.at
  have sg : Same G (upd G a o) := same_new g
  have il := lt_of_get e
  have other : ∀ j, isOwnC (en.set i (some (ow', d)))[j]? = true → j ≠ i ∧ isOwnC en[j]? = true := fun j h => by
    by_cases hj : i = j
    · subst hj
      rw [get_set_same il] at h
      have : ow'.isOwn = true := h
      rw [k'] at this; cases this
    · rw [get_set_ne hj] at h; exact ⟨fun z => hj z.symm, h⟩
  refine ⟨a, o, e1, sg, t.rep sg e2, ⟨same_upd2 S.gH e2, S.rH, fun b o' z => ?_, by rw [List.length_set]; exact S.len, fun j w x hj hk => ?_, fun j w x hj hk => ?_, fun j l b h1 h2 q1 q2 => ?_, S.tb.upG (notT_mut mo)⟩⟩
  · rw [upd_ne (ne_of_none z r)]; exact S.gr b o' z
  · by_cases hij : i = j
    · subst hij
      rw [get_set_same il] at hj
      cases hj
      exact ⟨_, e1, t.rep sg e2⟩
    · rw [get_set_ne hij] at hj
      obtain ⟨v, q1, q2⟩ := S.sh j w x hj hk
      exact ⟨v, q1, q2.mono sg⟩
  · obtain ⟨nji, hown⟩ := other j (by rw [hj]; exact hk)
    rw [get_set_ne (Ne.symm nji)] at hj
    obtain ⟨b, q1, g', r', t'⟩ := S.own j w x hj hk
    have ne : b ≠ a := fun z => by
      rw [z] at q1
      exact nji (S.apart j i a hown (by rw [e]; exact k) q1 e1)
    exact ⟨b, q1, by rw [upd_ne ne]; exact g', r', t'.keep sg rfl⟩
  · exact S.apart j l b (other j h1).2 (other l h2).2 q1 q2
/-- a slot is forgotten -/
theorem Sep.drop {i : Nat} (S : Sep Y G R H σ en) : Sep Y G R H σ (en.set i none) := by
  have other : ∀ (j : Nat) (x : Ow × D), (en.set i none)[j]? = some (some x) → en[j]? = some (some x) := fun j x h => by
    by_cases hj : i = j
    · subst hj
      by_cases hl : i < en.length
      · rw [get_set_same hl] at h; cases h
      · rw [List.getElem?_eq_none (by rw [List.length_set]; omega)] at h; cases h
    · rw [get_set_ne hj] at h; exact h
  have other2 : ∀ j : Nat, isOwnC (en.set i none)[j]? = true → isOwnC en[j]? = true := fun j h => by
    obtain ⟨ow, d, e, k⟩ := isOwnC_get h
    rw [other j _ e]; exact k
  exact ⟨S.gH, S.rH, S.gr, by rw [List.length_set]; exact S.len, fun j w x hj hk => S.sh j w x (other j _ hj) hk, fun j w x hj hk => S.own j w x (other j _ hj) hk, fun j l b h1 h2 => S.apart j l b (other2 j h1) (other2 l h2), S.tb⟩
/-- a slot is stored: shared or owned -/
theorem Sep.store {i : Nat} {v : V} {d : D} {own : Bool} (S : Sep Y G R H σ en) (hi : i < en.length) (q : Vok Y G R H σ en v d own) :
    Sep Y G R H (σ.set i (some v)) (en.set i (some (if own then .own else .sh, d))) := by
  have il : i < σ.length := by rw [S.len]; exact hi
  have at_ : (en.set i (some (if own then Ow.own else Ow.sh, d)))[i]? = some (some (if own then Ow.own else Ow.sh, d)) := get_set_same hi
  have sne : ∀ {j : Nat}, i ≠ j → (σ.set i (some v))[j]? = σ[j]? := fun h => List.getElem?_set_ne h
  have sat : (σ.set i (some v))[i]? = some (some v) := List.getElem?_set_self il
  refine ⟨S.gH, S.rH, S.gr, by simp [S.len], fun j w x hj hk => ?_, fun j w x hj hk => ?_, fun j l b h1 h2 q1 q2 => ?_, S.tb⟩
  · by_cases hij : i = j
    · subst hij
      rw [at_] at hj; cases hj
      cases own with
      | true => cases hk
      | false => exact ⟨v, sat, q⟩
    · rw [get_set_ne hij] at hj; rw [sne hij]; exact S.sh j w x hj hk
  · by_cases hij : i = j
    · subst hij
      rw [at_] at hj; cases hj
      cases own with
      | false => cases hk
      | true =>
        obtain ⟨a, rfl, o, f⟩ := q
        exact ⟨a, sat, o⟩
    · rw [get_set_ne hij] at hj; rw [sne hij]; exact S.own j w x hj hk
  · by_cases hij : i = j
    · by_cases hil : i = l
      · rw [← hij, ← hil]
      · subst hij
        rw [at_] at h1; rw [get_set_ne hil] at h2; rw [sat] at q1; rw [sne hil] at q2
        cases own with
        | false => cases h1
        | true =>
          obtain ⟨a, rfl, o, f⟩ := q
          cases q1
          exact absurd q2 (f l h2)
    · by_cases hil : i = l
      · subst hil
        rw [at_] at h2; rw [get_set_ne hij] at h1; rw [sat] at q2; rw [sne hij] at q1
        cases own with
        | false => cases h2
        | true =>
          obtain ⟨a, rfl, o, f⟩ := q
          cases q2
          exact absurd q1 (f j h1)
      · rw [get_set_ne hij] at h1; rw [get_set_ne hil] at h2; rw [sne hij] at q1; rw [sne hil] at q2
        exact S.apart j l b h1 h2 q1 q2
/-- the thing of an owned slot is written -/
theorem Sep.write {i : Nat} {ow : Ow} {d d' : D} {a : Addr} {o' : HO} (S : Sep Y G R H σ en) (e : en[i]? = some (some (ow, d))) (k : ow.isOwn = true) (ea : σ[i]? = some (some (.ref a)))
    (t' : Top Y G (upd H a o') a d') : Sep Y G R (upd H a o') σ (en.set i (some (ow, d'))) := by
  obtain ⟨a', e1, g, r, t⟩ := S.own i ow d e k
  rw [ea] at e1; cases e1
  obtain ⟨o, e2, m⟩ := t.at
  have il := lt_of_get e
  have own2 : ∀ j : Nat, isOwnC (en.set i (some (ow, d')))[j]? = isOwnC en[j]? := fun j => by
    by_cases hj : i = j
    · subst hj; rw [get_set_same il, e]; rfl
    · rw [get_set_ne hj]
  refine ⟨same_wr S.gH g, same_wr S.rH r, S.gr, by rw [List.length_set]; exact S.len, fun j w x hj hk => ?_, fun j w x hj hk => ?_, fun j l b h1 h2 q1 q2 => ?_, S.tb.wr e2 m⟩
  · by_cases hij : i = j
    · subst hij
      rw [get_set_same il] at hj; cases hj
      rw [k] at hk; cases hk
    · rw [get_set_ne hij] at hj; exact S.sh j w x hj hk
  · by_cases hij : i = j
    · subst hij
      rw [get_set_same il] at hj; cases hj
      exact ⟨a, ea, g, r, t'⟩
    · rw [get_set_ne hij] at hj
      obtain ⟨b, q1, g', r', t2⟩ := S.own j w x hj hk
      have ne : b ≠ a := fun z => by
        rw [z] at q1
        exact hij (S.apart i j a (by rw [e]; exact k) (by rw [hj]; exact hk) ea q1)
      exact ⟨b, q1, g', r', t2.keep (Same.refl G) (upd_ne ne)⟩
  · rw [own2] at h1 h2
    exact S.apart j l b h1 h2 q1 q2
theorem Keep.setSame {i : Nat} {ow ow' : Ow} {d d' : D} (e : en[i]? = some (some (ow, d))) (h : ow'.isB = ow.isB) : Keep σ en σ (en.set i (some (ow', d'))) := fun j => by
  refine ⟨?_, fun _ => rfl⟩
  by_cases hij : i = j
  · subst hij
    rw [get_set_same (lt_of_get e), e]
    exact h
  · rw [get_set_ne hij]
theorem Keep.store {i : Nat} {c : Cell} {v : Option V} (e : isBC en[i]? = false) (h : isBC (some c) = false) : Keep σ en (σ.set i v) (en.set i c) := fun j => by
  by_cases hij : i = j
  · subst hij
    refine ⟨?_, fun z => by rw [e] at z; cases z⟩
    by_cases hl : i < en.length
    · rw [get_set_same hl, e]; exact h
    · rw [List.getElem?_eq_none (by rw [List.length_set]; omega), e]; rfl
  · exact ⟨by rw [get_set_ne hij], fun _ => List.getElem?_set_ne hij⟩
theorem Keep.drop {i : Nat} {c : Cell} (e : isBC en[i]? = false) (h : isBC (some c) = false) : Keep σ en σ (en.set i c) := fun j => by
  refine ⟨?_, fun _ => rfl⟩
  by_cases hij : i = j
  · subst hij
    by_cases hl : i < en.length
    · rw [get_set_same hl, e]; exact h
    · rw [List.getElem?_eq_none (by rw [List.length_set]; omega), e]; rfl
  · rw [get_set_ne hij]
end
end L3

/-! L3C: readings of the small language; composition. -/
namespace L3
open PySem PySem.Spec PyProof.Rows L2

theorem Rs.bind_assoc {α β γ : Type} (r : Rs α) (f : α → En → Rs β) (g : β → En → Rs γ) : (r.bind f).bind g = r.bind fun a en => (f a en).bind g := by
  cases r <;> rfl

/-- what is wanted behind an evaluation -/
def Pst (Y : Wd) (W : WX) {α β : Type} (ok : Hp → Hp → Hp → L2.St → En → α → β → Prop) (G R : Hp) (σ : L2.St) (en : En) (r : Rs α) (Q : β → Hp → Prop) : Prop := match r with
  | .ok a en' => ∀ b H' G', Same G G' → Keep σ en σ en' → Sep Y G' R H' σ en' → ok G' R H' σ en' a b → Q b H'
  | .er x en' => ∀ cls dd H' G', Same G G' → Keep σ en σ en' → Sep Y G' R H' σ en' → ExOk Y G' x cls dd → W cls dd σ H'
  | .bad => False
def okV (Y : Wd) : Hp → Hp → Hp → L2.St → En → D × Bool → V → Prop := fun G R H σ en p v => Vok Y G R H σ en v p.1 p.2
def okB : Hp → Hp → Hp → L2.St → En → Bool → Bool → Prop := fun _ _ _ _ _ a b => b = a
def Aok (Y : Wd) (G : Hp) (σ : L2.St) (en : En) (v : V) : Av → Prop
  | .v d => Rep Y G v d
  | .p i => σ[i]? = some (some v)
def AokL (Y : Wd) (G : Hp) (σ : L2.St) (en : En) : List V → List Av → Prop
  | [], [] => True
  | v :: vs, a :: as => Aok Y G σ en v a ∧ AokL Y G σ en vs as
  | _, _ => False
def okA (Y : Wd) : Hp → Hp → Hp → L2.St → En → Av → V → Prop := fun G _ _ σ en a v => Aok Y G σ en v a
def okL (Y : Wd) : Hp → Hp → Hp → L2.St → En → List Av → List V → Prop := fun G _ _ σ en as vs => AokL Y G σ en vs as
/-- a reading by an evaluation -/
def rd (Y : Wd) (W : WX) {α β : Type} (ok : Hp → Hp → Hp → L2.St → En → α → β → Prop) (ev : En → Rs α) : L2.St → Hp → (β → Hp → Prop) → Prop := fun σ H Q =>
  ∃ G R en, Sep Y G R H σ en ∧ Pst Y W ok G R σ en (ev en) Q

section
variable {Y : Wd} {W : WX} {α β γ δ : Type} {ok1 : Hp → Hp → Hp → L2.St → En → α → β → Prop} {ok2 : Hp → Hp → Hp → L2.St → En → γ → δ → Prop} {G R : Hp} {σ : L2.St} {en : En}
theorem Pst.weak {r : Rs α} {Q : β → Hp → Prop} {G' : Hp} {en1 : En} (h : Pst Y W ok1 G R σ en r Q) (s : Same G G') (k : Keep σ en σ en1) : Pst Y W ok1 G' R σ en1 r Q := by
  cases r with
  | ok a en' => exact fun b H' G'' s' k' => h b H' G'' (s.trans s') (k.trans k')
  | er x en' => exact fun c d H' G'' s' k' => h c d H' G'' (s.trans s') (k.trans k')
  | bad => exact h
theorem Pst.bind {r : Rs α} {f : α → En → Rs γ} {Q : δ → Hp → Prop} {Q1 : β → Hp → Prop} (h : Pst Y W ok2 G R σ en (r.bind f) Q)
    (k : ∀ a en' b H' G', r = .ok a en' → Same G G' → Keep σ en σ en' → Sep Y G' R H' σ en' → ok1 G' R H' σ en' a b → Pst Y W ok2 G' R σ en' (f a en') Q → Q1 b H') : Pst Y W ok1 G R σ en r Q1 := by
  cases r with
  | ok a en' =>
    intro b H' G' s kp S o
    exact k a en' b H' G' rfl s kp S o (Pst.weak (r := f a en') h s kp)
  | er x en' => exact h
  | bad => exact h
/-- go on from a state -/
theorem rd.mk {ev : En → Rs α} {Q : β → Hp → Prop} {H : Hp} (S : Sep Y G R H σ en) (h : Pst Y W ok1 G R σ en (ev en) Q) : rd Y W ok1 ev σ H Q := ⟨G, R, en, S, h⟩
end
theorem _root_.L2.PE.imp {X : Cx} {e : Expr} {t t' : TE} (h : PE X e t) (k : ∀ σ H Q, t' σ H Q → t σ H Q) : PE X e t' := ⟨fun p s σ H Q I q => h.run p s σ H Q I (k _ _ _ q)⟩
theorem _root_.L2.PT.imp {X : Cx} {e : Expr} {t t' : TT} (h : PT X e t) (k : ∀ σ H Q, t' σ H Q → t σ H Q) : PT X e t' := ⟨fun p s σ H Q I q => h.run p s σ H Q I (k _ _ _ q)⟩
theorem _root_.L2.PW.imp {X : Cx} {e : Expr} {t t' : TT} (h : PW X e t) (k : ∀ σ H Q, t' σ H Q → t σ H Q) : PW X e t' := ⟨fun wh p s σ H Q I q => h.run wh p s σ H Q I (k _ _ _ q)⟩
theorem _root_.L2.PA.imp {X : Cx} {es : List Expr} {t t' : TA} (h : PA X es t) (k : ∀ σ H Q, t' σ H Q → t σ H Q) : PA X es t' := ⟨fun pos p s σ H Q I q => h.run pos p s σ H Q I (k _ _ _ q)⟩
theorem _root_.L2.PS.imp {X : Cx} {st : Stmt} {t t' : TS} (h : PS X st t) (k : ∀ D σ H, t' D σ H → t D σ H) : PS X st t' := ⟨fun p s σ H D I q => h.run p s σ H D I (k _ _ _ q)⟩
theorem _root_.L2.PSs.imp {X : Cx} {st : List Stmt} {t t' : TS} (h : PSs X st t) (k : ∀ D σ H, t' D σ H → t D σ H) : PSs X st t' := ⟨fun p s σ H D I q => h.run p s σ H D I (k _ _ _ q)⟩

/-- what the evaluator runs with -/
structure Ev where
  w : Nat
  C : Nat → List (Bool × D) → CRes
  md : Nat → List Bool
abbrev rdE (Y : Wd) (W : WX) (V' : Ev) (m : E) : TE := rd Y W (okV Y) (evE V'.C V'.md m)
abbrev rdT (Y : Wd) (W : WX) (V' : Ev) (m : E) : TT := rd Y W okB fun en => toB (evE V'.C V'.md m en)
abbrev rdX (Y : Wd) (W : WX) (V' : Ev) (m : E) : TE := rd Y W (okA Y) fun en => argOf m (evE V'.C V'.md m en) en
abbrev rdA (Y : Wd) (W : WX) (V' : Ev) (ms : Es) : TA := rd Y W (okL Y) (evA V'.C V'.md ms)

section
variable {X : Cx} {Y : Wd} {W : WX} {U : Ev}
/-- a value that is looked at: shared, or a slot's own -/
def Pk (Y : Wd) (G H : Hp) (v : V) (d : D) : Prop := Rep Y G v d ∨ ∃ a, v = .ref a ∧ Top Y G H a d
def PkL (Y : Wd) (G H : Hp) : List V → List D → Prop
  | [], [] => True
  | v :: vs, d :: ds => Pk Y G H v d ∧ PkL Y G H vs ds
  | _, _ => False
theorem pk_of {G R H : Hp} {σ : L2.St} {en : En} (S : Sep Y G R H σ en) : ∀ {a : Av} {v : V} {d : D}, Aok Y G σ en v a → avD en a = some d → Pk Y G H v d
  | .v d', v, d, h, e => by cases e; exact .inl h
  | .p i, v, d, h, e => by
    simp only [avD] at e
    split at e
    · rename_i ow d' q
      cases e
      cases k : ow.isOwn with
      | true =>
        obtain ⟨a, e1, o⟩ := S.own i ow d q k
        have h : σ[i]? = some (some v) := h
        rw [e1] at h; cases h
        exact .inr ⟨a, rfl, o.t⟩
      | false =>
        obtain ⟨v', e1, o⟩ := S.sh i ow d q k
        have h : σ[i]? = some (some v) := h
        rw [e1] at h; cases h
        exact .inl o
    · cases e
theorem pkL_of {G R H : Hp} {σ : L2.St} {en : En} (S : Sep Y G R H σ en) : ∀ {as : List Av} {vs : List V} {ds : List D}, AokL Y G σ en vs as → avDs en as = some ds → PkL Y G H vs ds
  | [], [], ds, h, e => by cases e; trivial
  | a :: as, v :: vs, ds, h, e => by
    simp only [avDs] at e
    split at e
    · rename_i d ds' e1 e2
      cases e
      exact ⟨pk_of S h.1 e1, pkL_of S h.2 e2⟩
    · cases e
  | [], _ :: _, _, h, _ => h.elim
  | _ :: _, [], _, h, _ => h.elim
theorem Aok.mono {G G' : Hp} {σ : L2.St} {en en' : En} {v : V} {a : Av} (h : Aok Y G σ en v a) (s : Same G G') : Aok Y G' σ en' v a := by
  cases a with
  | v d => exact Rep.mono s h
  | p i => exact h
theorem AokL.mono {G G' : Hp} {σ : L2.St} {en en' : En} (s : Same G G') : ∀ {vs : List V} {as : List Av}, AokL Y G σ en vs as → AokL Y G' σ en' vs as
  | [], [], _ => trivial
  | _ :: _, _ :: _, h => ⟨h.1.mono s, AokL.mono s h.2⟩
  | [], _ :: _, h => h.elim
  | _ :: _, [], h => h.elim

/-- a told value may be shared -/
theorem Vok.share {G R H : Hp} {σ : L2.St} {en : En} {v : V} {d : D} {own : Bool} (S : Sep Y G R H σ en) (q : Vok Y G R H σ en v d own) : ∃ G', Same G G' ∧ Sep Y G' R H σ en ∧ Rep Y G' v d := by
  cases own with
  | false => exact ⟨G, Same.refl G, S, q⟩
  | true =>
    obtain ⟨a, rfl, o, f⟩ := q
    obtain ⟨u, e, mu⟩ := o.t.at
    exact ⟨upd G a u, same_new o.g, S.share e o.g o.r f (notT_mut mu), o.t.rep (same_new o.g) e⟩

/-! ### arguments -/
theorem x_of {e : Expr} {m : E} (h : PE X e (rdE Y W U m)) (hm : ∀ i, m ≠ .pk i) : PE X e (rdX Y W U m) := by
  refine h.imp fun σ H Q ⟨G, R, en, S, p⟩ => ⟨G, R, en, S, ?_⟩
  have p' : Pst Y W (okA Y) G R σ en ((evE U.C U.md m en).bind fun q en => .ok (.v q.1) en) Q := by
    cases m with
    | pk i => exact absurd rfl (hm i)
    | _ => exact p
  refine Pst.bind (f := fun (q : D × Bool) en => Rs.ok (Av.v q.1) en) p' fun q en' v H' G' _ s k S' o h' => ?_
  obtain ⟨G2, s2, S2, r2⟩ := Vok.share S' o
  exact h' v H' G2 s2 (Keep.refl _ _) S2 r2
theorem x_pk {i : Nat} {x : Str} {pos : Pos} (hN : X.N[i]? = some x := by rfl) (hv : Vis X.env.scope x := by first | exact Or.inl rfl | exact Or.inr (Or.inl rfl) | exact Or.inr (Or.inr rfl)) (hd : (x == ("__debug__" : Str)) = false := by decide)
    (hcd : (x == ("__classdict__" : Str)) = false := by decide) : PE X (.Name x pos) (rdX Y W U (.pk i)) := by
  refine (pe_var hN hv hd hcd).imp fun σ H Q ⟨G, R, en, S, p⟩ => ?_
  have p : Pst Y W (okA Y) G R σ en (match en[i]? with | some (some _) => .ok (.p i) en | _ => .bad) Q := p
  split at p
  · rename_i c e
    obtain ⟨ow, d⟩ := c
    have : ∃ v, σ[i]? = some (some v) := by
      cases k : ow.isOwn with
      | true => obtain ⟨a, e1, _⟩ := S.own i ow d e k; exact ⟨_, e1⟩
      | false => obtain ⟨v, e1, _⟩ := S.sh i ow d e k; exact ⟨_, e1⟩
    obtain ⟨v, e1⟩ := this
    exact ⟨v, e1, p v H G (Same.refl _) (Keep.refl _ _) S e1⟩
  · exact p.elim
theorem a_nil : PA X [] (rdA Y W U .nil) := pa_nil.imp fun σ H Q ⟨G, R, en, S, p⟩ => p [] H G (Same.refl _) (Keep.refl _ _) S trivial
theorem evA_cons (C : Nat → List (Bool × D) → CRes) (md : Nat → List Bool) (e : E) (es : Es) (en : En) :
    evA C md (.cons e es) en = (argOf e (evE C md e en) en).bind fun a en => (evA C md es en).bind fun as en => .ok (a :: as) en := by
  rw [evA]
theorem a_cons {e : Expr} {es : List Expr} {m : E} {ms : Es} (h1 : PE X e (rdX Y W U m)) (h2 : PA X es (rdA Y W U ms)) (hs : starEach (e :: es) X.env = (false, eval e X.env) :: starEach es X.env := by rfl) :
    PA X (e :: es) (rdA Y W U (.cons m ms)) := by
  refine (pa_cons h1 h2 hs).imp fun σ H Q ⟨G, R, en, S, p⟩ => ⟨G, R, en, S, ?_⟩
  rw [evA_cons] at p
  refine Pst.bind p fun a en' v H' G' _ s k S' o p' => rd.mk S' (Pst.bind p' fun as en2 vs H2 G2 _ s2 k2 S2 o2 p2 => ?_)
  exact p2 (v :: vs) H2 G2 (Same.refl _) (Keep.refl _ _) S2 ⟨o.mono s2, o2⟩

/-! ### operations -/
theorem evE_op (C : Nat → List (Bool × D) → CRes) (md : Nat → List Bool) (o : Op) (as : Es) (en : En) : evE C md (.op o as) en = (evA C md as en).bind (opFin o) := by
  rw [evE]
theorem evE_op1 (C : Nat → List (Bool × D) → CRes) (md : Nat → List Bool) (o : Op) (a : E) (en : En) :
    evE C md (.op o (.cons a .nil)) en = (argOf a (evE C md a en) en).bind fun x en => opFin o [x] en := by
  rw [evE_op, evA_cons, Rs.bind_assoc]; rfl
theorem evE_op2 (C : Nat → List (Bool × D) → CRes) (md : Nat → List Bool) (o : Op) (a b : E) (en : En) :
    evE C md (.op o (.cons a (.cons b .nil))) en = (argOf a (evE C md a en) en).bind fun x en => (argOf b (evE C md b en) en).bind fun y en => opFin o [x, y] en := by
  rw [evE_op, evA_cons, Rs.bind_assoc]
  congr 1; funext x en
  rw [evA_cons, Rs.bind_assoc, Rs.bind_assoc]; rfl
/-- the operation keeps its promise: r is what HandS asks -/
def PrimN (Y : Wd) (W : WX) (o : Op) (r : List V → Hp → VK → Prop) : Prop := ∀ (G R H : Hp) (σ : L2.St) (en : En) (vs : List V) (ds : List D) (p : D × Bool) (Q : VK), Sep Y G R H σ en → PkL Y G H vs ds → o.run ds = some p →
  Pst Y W (okV Y) G R σ en (.ok p en) Q → r vs H Q
theorem repL_of {G : Hp} {σ : L2.St} {en : En} : ∀ {as : List Av} {vs : List V} {ds : List D}, AokL Y G σ en vs as → vDs as = some ds → RepL Y G vs ds
  | [], [], ds, h, e => by cases e; exact .nil
  | .v d :: as, v :: vs, ds, h, e => by
    simp only [vDs] at e
    split at e
    · rename_i ds' e2
      cases e
      exact .cons h.1 (repL_of h.2 e2)
    · cases e
  | .p _ :: as, v :: vs, ds, h, e => by cases e
  | [], _ :: _, _, h, _ => h.elim
  | _ :: _, [], _, h, _ => h.elim
/-- .. whose arguments it keeps -/
def PrimK (Y : Wd) (W : WX) (o : Op) (r : List V → Hp → VK → Prop) : Prop := ∀ (G R H : Hp) (σ : L2.St) (en : En) (vs : List V) (ds : List D) (p : D × Bool) (Q : VK), Sep Y G R H σ en → RepL Y G vs ds → o.run ds = some p →
  Pst Y W (okV Y) G R σ en (.ok p en) Q → r vs H Q
theorem prim_fin {o : Op} {r : List V → Hp → VK → Prop} (h : PrimN Y W o r) {G R H : Hp} {σ : L2.St} {en : En} {avs : List Av} {vs : List V} {Q : VK} (S : Sep Y G R H σ en) (a : AokL Y G σ en vs avs)
    (p : Pst Y W (okV Y) G R σ en (opFin o avs en) Q) (hk : o.keeps = false := by rfl) : r vs H Q := by
  unfold opFin at p
  rw [hk] at p
  split at p
  · exact p.elim
  · rename_i ds e
    split at p
    · rename_i q e2
      exact h G R H σ en vs ds q Q S (pkL_of S a e) e2 p
    · exact p.elim
theorem prim_finK {o : Op} {r : List V → Hp → VK → Prop} (h : PrimK Y W o r) {G R H : Hp} {σ : L2.St} {en : En} {avs : List Av} {vs : List V} {Q : VK} (S : Sep Y G R H σ en) (a : AokL Y G σ en vs avs)
    (p : Pst Y W (okV Y) G R σ en (opFin o avs en) Q) (hk : o.keeps = true := by rfl) : r vs H Q := by
  unfold opFin at p
  rw [hk] at p
  split at p
  · exact p.elim
  · rename_i ds e
    split at p
    · rename_i q e2
      exact h G R H σ en vs ds q Q S (repL_of a e) e2 p
    · exact p.elim
theorem s_bin {o : Op} {op : Operator} {r : R2} {a b : Expr} {a' b' : E} {pos : Pos} (ho : OpR X (binaryOp op) r) (hk : o.keeps = false) (h : PrimN Y W o fun vs H Q => ∀ x y, vs = [x, y] → r x y H Q) (ha : PE X a (rdX Y W U a')) (hb : PE X b (rdX Y W U b')) :
    PE X (.BinOp a op b pos) (rdE Y W U (.op o (.cons a' (.cons b' .nil)))) := by
  refine (pe_op ho ha hb).imp fun σ H Q ⟨G, R, en, S, p⟩ => ⟨G, R, en, S, ?_⟩
  rw [evE_op2] at p
  refine Pst.bind p fun x en1 v H1 G1 _ s1 k1 S1 o1 p1 => rd.mk S1 (Pst.bind p1 fun y en2 u H2 G2 _ s2 k2 S2 o2 p2 => ?_)
  exact prim_fin h S2 (vs := [v, u]) (avs := [x, y]) ⟨Aok.mono o1 s2, o2, trivial⟩ p2 hk v u rfl
theorem s_un {o : Op} {op : UnaryOp} {r : V → Hp → VK → Prop} {a : Expr} {a' : E} {pos : Pos} (ho : UnR X (unaryOp op) r) (hk : o.keeps = false) (h : PrimN Y W o fun vs H Q => ∀ x, vs = [x] → r x H Q) (ha : PE X a (rdX Y W U a')) :
    PE X (.UnaryOp op a pos) (rdE Y W U (.op o (.cons a' .nil))) := by
  refine (pe_un ho ha).imp fun σ H Q ⟨G, R, en, S, p⟩ => ⟨G, R, en, S, ?_⟩
  rw [evE_op1] at p
  refine Pst.bind p fun x en1 v H1 G1 _ s1 k1 S1 o1 p1 => ?_
  exact prim_fin h S1 (vs := [v]) (avs := [x]) ⟨o1, trivial⟩ p1 hk v rfl
theorem s_cmp {o : Op} {op : CmpOp} {r : R2} {a b : Expr} {a' b' : E} {pos : Pos} (ho : OpR X (compareOp op) r) (hk : o.keeps = false) (h : PrimN Y W o fun vs H Q => ∀ x y, vs = [x, y] → r x y H Q) (ha : PE X a (rdX Y W U a')) (hb : PE X b (rdX Y W U b')) (hm : behindInMarks op b = false) :
    PE X (.Compare a [op] [b] pos) (rdE Y W U (.op o (.cons a' (.cons b' .nil)))) := by
  refine (pe_cmpR ho ha hb hm).imp fun σ H Q ⟨G, R, en, S, p⟩ => ⟨G, R, en, S, ?_⟩
  rw [evE_op2] at p
  refine Pst.bind p fun x en1 v H1 G1 _ s1 k1 S1 o1 p1 => rd.mk S1 (Pst.bind p1 fun y en2 u H2 G2 _ s2 k2 S2 o2 p2 => ?_)
  exact prim_fin h S2 (vs := [v, u]) (avs := [x, y]) ⟨Aok.mono o1 s2, o2, trivial⟩ p2 hk v u rfl
/-- a value that is a truth -/
theorem toB_fin {G R : Hp} {σ : L2.St} {en : En} {p : D × Bool} {Q : Bool → Hp → Prop} {v : V} {H' : Hp} {G' : Hp} (s : Same G G') {en' : En} (k : Keep σ en σ en') (S : Sep Y G' R H' σ en') (o : Vok Y G' R H' σ en' v p.1 p.2)
    (h : Pst Y W okB G R σ en (match p.1 with | .bl b => .ok b en' | _ => .bad) Q) : ∃ c, v = .bl c ∧ Q c H' := by
  obtain ⟨d, own⟩ := p
  cases d with
  | bl b =>
    cases own with
    | false =>
      have o : Rep Y G' v (.bl b) := o
      cases o
      exact ⟨b, rfl, h b H' G' s k S rfl⟩
    | true =>
      obtain ⟨a, _, ⟨_, _, t⟩, _⟩ := o
      cases t
  | _ => exact h.elim
theorem toB_bind {G R : Hp} {σ : L2.St} {en : En} {r : Rs (D × Bool)} {Q : Bool → Hp → Prop} (h : Pst Y W okB G R σ en (toB r) Q) : Pst Y W (okV Y) G R σ en r fun v H1 => ∃ c, v = .bl c ∧ Q c H1 := by
  unfold toB at h
  exact Pst.bind h fun p en1 v H1 G1 _ s k S o p1 => toB_fin (Same.refl _) (Keep.refl _ _) S o p1
theorem s_cmpT {o : Op} {op : CmpOp} {r : R2} {a b : Expr} {a' b' : E} {pos : Pos} (ho : OpR X (compareOp op) r) (hk : o.keeps = false) (h : PrimN Y W o fun vs H Q => ∀ x y, vs = [x, y] → r x y H Q) (ha : PE X a (rdX Y W U a')) (hb : PE X b (rdX Y W U b')) (hm : behindInMarks op b = false) :
    PT X (.Compare a [op] [b] pos) (rdT Y W U (.op o (.cons a' (.cons b' .nil)))) := by
  refine (pt_cmpR ho ha hb hm).imp fun σ H Q ⟨G, R, en, S, p⟩ => ⟨G, R, en, S, ?_⟩
  have p := toB_bind p
  rw [evE_op2] at p
  refine Pst.bind p fun x en1 v H1 G1 _ s1 k1 S1 o1 p1 => rd.mk S1 (Pst.bind p1 fun y en2 u H2 G2 _ s2 k2 S2 o2 p2 => ?_)
  exact prim_fin h S2 (vs := [v, u]) (avs := [x, y]) ⟨Aok.mono o1 s2, o2, trivial⟩ p2 hk v u rfl
/-- an expression as a test -/
theorem t_of {e : Expr} {m : E} (h : PE X e (rdE Y W U m)) (he : ∀ whole, isTrue e X.env whole = (do let v ← whole; standAt e.pos; holding [v] (truthy v)) := by intro _; rfl) : PT X e (rdT Y W U m) :=
  (pt_val h he).imp fun _ _ _ ⟨G, R, en, S, p⟩ => ⟨G, R, en, S, toB_bind p⟩
/-! ### and, or, not, if -/
theorem toB_and (C : Nat → List (Bool × D) → CRes) (md : Nat → List Bool) (a b : E) (en : En) :
    toB (evE C md (.and a b) en) = (toB (evE C md a en)).bind fun k en => if k = true then toB (evE C md b en) else .ok false en := by
  rw [evE]
  generalize toB (evE C md a en) = r
  cases r with
  | ok k en => cases k <;> rfl
  | er x en => rfl
  | bad => rfl
theorem toB_or (C : Nat → List (Bool × D) → CRes) (md : Nat → List Bool) (a b : E) (en : En) :
    toB (evE C md (.or a b) en) = (toB (evE C md a en)).bind fun k en => if k = true then .ok true en else toB (evE C md b en) := by
  rw [evE]
  generalize toB (evE C md a en) = r
  cases r with
  | ok k en => cases k <;> rfl
  | er x en => rfl
  | bad => rfl
variable {a b c : Expr} {a' b' c' : E} {rest : List Expr} {pos : Pos}
theorem w_and1 (ha : PT X a (rdT Y W U a')) : PW X (.BoolOp .And [a] pos) (rdT Y W U a') := pw_and1 ha
theorem w_or1 (ha : PT X a (rdT Y W U a')) : PW X (.BoolOp .Or [a] pos) (rdT Y W U a') := pw_or1 ha
theorem w_and (ha : PT X a (rdT Y W U a')) (hb : PW X (.BoolOp .And (b :: rest) pos) (rdT Y W U b')) : PW X (.BoolOp .And (a :: b :: rest) pos) (rdT Y W U (.and a' b')) := by
  refine (pw_and ha hb).imp fun σ H Q ⟨G, R, en, S, p⟩ => ⟨G, R, en, S, ?_⟩
  dsimp only at p
  rw [toB_and] at p
  refine Pst.bind p fun k en1 v H1 G1 _ s1 k1 S1 o1 p1 => ?_
  cases (show v = k from o1)
  cases k with
  | true => exact rd.mk S1 p1
  | false => exact p1 false H1 G1 (Same.refl _) (Keep.refl _ _) S1 rfl
theorem w_or (ha : PT X a (rdT Y W U a')) (hb : PW X (.BoolOp .Or (b :: rest) pos) (rdT Y W U b')) : PW X (.BoolOp .Or (a :: b :: rest) pos) (rdT Y W U (.or a' b')) := by
  refine (pw_or ha hb).imp fun σ H Q ⟨G, R, en, S, p⟩ => ⟨G, R, en, S, ?_⟩
  dsimp only at p
  rw [toB_or] at p
  refine Pst.bind p fun k en1 v H1 G1 _ s1 k1 S1 o1 p1 => ?_
  cases (show v = k from o1)
  cases k with
  | true => exact p1 true H1 G1 (Same.refl _) (Keep.refl _ _) S1 rfl
  | false => exact rd.mk S1 p1
theorem s_and1 (ha : PE X a (rdE Y W U a')) : PE X (.BoolOp .And [a] pos) (rdE Y W U a') := pe_one ha
theorem s_or1 (ha : PE X a (rdE Y W U a')) : PE X (.BoolOp .Or [a] pos) (rdE Y W U a') := pe_one ha
theorem s_and (ha : PE X a (rdE Y W U a')) (hb : PE X (.BoolOp .And (b :: rest) pos) (rdE Y W U b')) : PE X (.BoolOp .And (a :: b :: rest) pos) (rdE Y W U (.and a' b')) := by
  refine (pe_and ha hb).imp fun σ H Q ⟨G, R, en, S, p⟩ => ⟨G, R, en, S, ?_⟩
  rw [evE, toB, Rs.bind_assoc] at p
  refine Pst.bind p fun q en1 v H1 G1 _ s1 k1 S1 o1 p1 => ?_
  obtain ⟨d, own⟩ := q
  cases d with
  | bl k =>
    have ev : v = .bl k := by
      cases own with
      | false => have o1 : Rep Y G1 v (.bl k) := o1; cases o1; rfl
      | true => obtain ⟨a, _, ⟨_, _, t⟩, _⟩ := o1; cases t
    refine ⟨k, ev, ?_⟩
    cases k with
    | true => exact rd.mk S1 p1
    | false => exact p1 (.bl false) H1 G1 (Same.refl _) (Keep.refl _ _) S1 (.bl false)
  | _ => exact p1.elim
theorem s_or (ha : PE X a (rdE Y W U a')) (hb : PE X (.BoolOp .Or (b :: rest) pos) (rdE Y W U b')) : PE X (.BoolOp .Or (a :: b :: rest) pos) (rdE Y W U (.or a' b')) := by
  refine (pe_or ha hb).imp fun σ H Q ⟨G, R, en, S, p⟩ => ⟨G, R, en, S, ?_⟩
  rw [evE, toB, Rs.bind_assoc] at p
  refine Pst.bind p fun q en1 v H1 G1 _ s1 k1 S1 o1 p1 => ?_
  obtain ⟨d, own⟩ := q
  cases d with
  | bl k =>
    have ev : v = .bl k := by
      cases own with
      | false => have o1 : Rep Y G1 v (.bl k) := o1; cases o1; rfl
      | true => obtain ⟨a, _, ⟨_, _, t⟩, _⟩ := o1; cases t
    refine ⟨k, ev, ?_⟩
    cases k with
    | true => exact p1 (.bl true) H1 G1 (Same.refl _) (Keep.refl _ _) S1 (.bl true)
    | false => exact rd.mk S1 p1
  | _ => exact p1.elim
theorem s_ite (hc : PT X c (rdT Y W U c')) (ha : PE X a (rdE Y W U a')) (hb : PE X b (rdE Y W U b')) : PE X (.IfExp c a b pos) (rdE Y W U (.ite c' a' b')) := by
  refine (pe_ifExp hc ha hb).imp fun σ H Q ⟨G, R, en, S, p⟩ => ⟨G, R, en, S, ?_⟩
  rw [evE] at p
  refine Pst.bind p fun k en1 v H1 G1 _ s1 k1 S1 o1 p1 => ?_
  cases (show v = k from o1)
  cases k with
  | true => exact rd.mk S1 p1
  | false => exact rd.mk S1 p1
/-! ### names and constants -/
theorem isBC_of {en : En} {i : Nat} {ow : Ow} {d : D} (e : en[i]? = some (some (ow, d))) : isBC en[i]? = ow.isB := by rw [e]; rfl
theorem rdVar_ok {i : Nat} {G R H : Hp} {σ : L2.St} {en : En} {Q : VK} (S : Sep Y G R H σ en) (p : Pst Y W (okV Y) G R σ en (rdVar i en) Q) : ∃ v, σ[i]? = some (some v) ∧ Q v H := by
  unfold rdVar at p
  split at p
  · rename_i d e
    obtain ⟨v, e1, r⟩ := S.sh i .sh d e rfl
    exact ⟨v, e1, p v H G (Same.refl _) (Keep.refl _ _) S r⟩
  · rename_i d e
    obtain ⟨v, e1, r⟩ := S.sh i .brs d e rfl
    exact ⟨v, e1, p v H G (Same.refl _) (Keep.refl _ _) S r⟩
  · rename_i d e
    obtain ⟨a, o, e1, s, r, S'⟩ := S.shareS (ow' := .sh) e rfl rfl
    exact ⟨_, e1, p _ H _ s (Keep.setSame e rfl) S' r⟩
  · rename_i d e
    obtain ⟨a, o, e1, s, r, S'⟩ := S.shareS (ow' := .brs) e rfl rfl
    exact ⟨_, e1, p _ H _ s (Keep.setSame e rfl) S' r⟩
  · exact p.elim
theorem s_var {i : Nat} {x : Str} {pos : Pos} (hN : X.N[i]? = some x := by rfl) (hv : Vis X.env.scope x := by first | exact Or.inl rfl | exact Or.inr (Or.inl rfl) | exact Or.inr (Or.inr rfl)) (hd : (x == ("__debug__" : Str)) = false := by decide)
    (hcd : (x == ("__classdict__" : Str)) = false := by decide) : PE X (.Name x pos) (rdE Y W U (.var i)) := by
  refine (pe_var hN hv hd hcd).imp fun σ H Q ⟨G, R, en, S, p⟩ => ?_
  rw [evE] at p
  exact rdVar_ok S p
theorem s_mv {i : Nat} {x : Str} {pos : Pos} (hN : X.N[i]? = some x := by rfl) (hv : Vis X.env.scope x := by first | exact Or.inl rfl | exact Or.inr (Or.inl rfl) | exact Or.inr (Or.inr rfl)) (hd : (x == ("__debug__" : Str)) = false := by decide)
    (hcd : (x == ("__classdict__" : Str)) = false := by decide) : PE X (.Name x pos) (rdE Y W U (.mv i)) := by
  refine (pe_var hN hv hd hcd).imp fun σ H Q ⟨G, R, en, S, p⟩ => ?_
  rw [evE, mvVar] at p
  split at p
  · rename_i d e
    obtain ⟨a, e1, o⟩ := S.own i .own d e rfl
    refine ⟨_, e1, p _ H G (Same.refl _) (Keep.drop (by rw [e]; rfl) rfl) S.drop ⟨a, rfl, o, fun j hj z => ?_⟩⟩
    have il := lt_of_get e
    by_cases hij : i = j
    · subst hij; rw [get_set_same il] at hj; cases hj
    · rw [get_set_ne hij] at hj
      exact hij (S.apart i j a (by rw [e]; rfl) hj e1 z)
  · exact rdVar_ok S p
theorem s_const {e : Expr} {v : V} {d : D} (h : PE X e (tC v)) (r : ∀ G, Rep Y G v d) : PE X e (rdE Y W U (.cst d)) := by
  refine h.imp fun σ H Q ⟨G, R, en, S, p⟩ => ?_
  rw [evE] at p
  exact p v H G (Same.refl _) (Keep.refl _ _) S (r G)
theorem s_int {i : Int} {j : Nat} {pos : Pos} : PE X (.Constant (.int i) j pos) (rdE Y W U (.cst (.int i))) := s_const pe_int fun _ => .int i
theorem s_bl {i : Bool} {j : Nat} {pos : Pos} : PE X (.Constant (.bool i) j pos) (rdE Y W U (.cst (.bl i))) := s_const pe_bl fun _ => .bl i
theorem s_non {j : Nat} {pos : Pos} : PE X (.Constant .none j pos) (rdE Y W U (.cst .non)) := s_const pe_non fun _ => .non
theorem s_str {i : Str} {j : Nat} {pos : Pos} : PE X (.Constant (.str i) j pos) (rdE Y W U (.cst (.str i))) := s_const pe_str fun _ => .str i
/-- a constant of the module -/
theorem s_glb {x : Str} {v : V} {u : Value} {d : D} {pos : Pos} (hg : Gl X x) (hm : X.mg x = some u) (r : RelV v u) (q : ∀ G, Rep Y G v d) (hd : (x == ("__debug__" : Str)) = false := by decide) : PE X (.Name x pos) (rdE Y W U (.op (.glb d) .nil)) := by
  refine (pe_glob hg hm r hd).imp fun σ H Q ⟨G, R, en, S, p⟩ => ?_
  rw [evE_op, evA] at p
  exact p v H G (Same.refl _) (Keep.refl _ _) S (q G)
end
end L3

/-! L3Y: enumerate(t), max(t) of a tuple. -/
namespace HT
open PySem PySem.Spec PySem.Calls PyProof.Rows L2
theorem meets_enum1 {v : Value} {o : Obj} {H : Heap → Prop} (B : Begins v o H) :
    Meets (Builtin.«enumerate.__new__» ⟨[.type "enumerate", v], []⟩) (fun _ R s => H s.heap ∧
      R (.ok (.ret (.ref (s.heap.push o).objs.size))) { s with heap := (s.heap.push o).push { cls := .type "enumerate", data := .fields #[.none, .bool false, .ref s.heap.objs.size, rawInt 0, .none, .none] } }) :=
  .of_wp fun prog w A R s h => by
    obtain ⟨hp, g, d, tk, os⟩ := s; obtain ⟨h1, h⟩ := h
    have hsub := sub_enumerate
    have q1 : ∀ {A' : Around} {E : Value → Shared → Prop} {Q : Value → Shared → Prop}, Q (.ref hp.objs.size) ⟨hp.push o, g, d, tk, os⟩ → wpAny (model prog w) A' (pyIter v) Q E ⟨hp, g, d, tk, os⟩ :=
      fun q => B.iter prog w _ _ ⟨hp, g, d, tk, os⟩ _ h1 q
    wp_walk using q1
    refine wpAny_stack_any fun st => wpAny_pure ?_
    split
    · rename_i c _ _ _ _ _
      cases (c == Value.type "enumerate")
      · wp_walk using q1
        exact ⟨_, rfl, h⟩
      · wp_walk using q1
        exact ⟨_, rfl, h⟩
    · wp_walk using q1
      exact ⟨_, rfl, h⟩
section
variable {prog : Program} {w : World} {A : Around} {E : Value → Shared → Prop} {s : Shared}
theorem enum1_begins {v : Value} {o : Obj} {H : Heap → Prop} {Q : Value → Shared → Prop} (B : Begins v o H) (h1 : H s.heap)
    (h : ∀ h', IsEnum h' (s.heap.objs.size + 1) s.heap.objs.size 0 .none → h'.get? s.heap.objs.size = some o → h'.objs.size = s.heap.objs.size + 2 →
      (∀ b o, s.heap.get? b = some o → h'.get? b = some o) → Q (.ref (s.heap.objs.size + 1)) { s with heap := h' }) :
    wpAny (model prog w) A (call (.type "enumerate") [v]) Q E s := by
  refine callType_new F.called_enumerate (by decide) (F.typeCall_enumerate_1 _) (F.newCall_enumerate_1 _) (fun obj => F.args_object_init_2 obj _) F.entry_enumerate_new
    (meets_enum1 B) ⟨h1, ?_⟩
  have hz : (s.heap.push o).objs.size = s.heap.objs.size + 1 := Heap.size_push ..
  show _ ∧ _
  rw [hz]
  have he : IsEnum ((s.heap.push o).push { cls := .type "enumerate", data := .fields #[.none, .bool false, .ref s.heap.objs.size, rawInt 0, .none, .none] }) (s.heap.objs.size + 1) s.heap.objs.size 0 .none := by
    have := Heap.get?_push_size (s.heap.push o) (o := { cls := .type "enumerate", data := .fields #[.none, .bool false, .ref s.heap.objs.size, rawInt 0, .none, .none] }) rfl
    rw [hz] at this; exact this
  exact ⟨⟨_, he, rfl⟩, h _ he (Heap.get?_push_of_some _ (Heap.get?_push_size _ B.free)) (by rw [Heap.size_push, hz]) fun b o x => Heap.get?_push_of_some _ (Heap.get?_push_of_some _ x)⟩
theorem max_intTup {l : Addr} {xs : Array (Int × Tok)} {Q : Value → Shared → Prop} (hh : A.handled = none) (hl : s.heap.IsTuple l (intItems xs)) (hne : 0 < xs.size)
    (h : ∀ v h' tk, (intItems xs)[argBest (fun i j => decide (numAt xs i > numAt xs j)) (xs.size - 1)]? = some v → (∀ b o, s.heap.get? b = some o → h'.get? b = some o) → Q v { s with heap := h', toks := tk }) :
    wpAny (model prog w) A (call (.builtin "max") [.ref l]) Q E s := by
  have hlt : l < s.heap.objs.size := by obtain ⟨_, e, _⟩ := hl; exact Heap.lt_size e
  refine call_max_walk (wpAny_pyIter_tuple hl ?_)
  refine ⟨_, _, _, _, _, _, _, rfl, Walks.tuple (A := A.in1) hh _ l (Nat.ne_of_lt hlt) (intItems xs), ⟨⟨_, Heap.get?_push_size _ rfl, rfl, rfl⟩, hl.push _⟩, fun b hb => ?_, by simpa [intItems] using hne, CmpOf.ints_gt (numAt xs) (fun _ _ => intItems_at), fun v h' tk hP hk => ?_⟩
  · show b < (s.heap.push _).objs.size
    rw [Heap.size_push]
    rcases List.mem_cons.mp hb with e | hb
    · rw [e]; exact Nat.lt_succ_self _
    · rw [List.mem_singleton.mp hb]; exact Nat.lt_succ_of_lt hlt
  · refine h v h' tk (by simpa [intItems] using hP) fun b o e => hk b o (fun hm => ?_) (Heap.get?_push_of_some _ e)
    rw [List.mem_singleton.mp hm] at e
    exact absurd (Heap.lt_size e) (Nat.lt_irrefl _)
theorem maxT_raw {l : Addr} {its : List Value} {ns : List Int} {Q : Value → Shared → Prop} (hh : A.handled = none) (hl : s.heap.IsTuple l its.toArray) (hi : IntsAre its ns) (hne : 0 < ns.length)
    (h : ∀ h' tk M t', (∀ b o, s.heap.get? b = some o → h'.get? b = some o) → M ∈ ns → (∀ a, a ∈ ns → a ≤ M) → Q (.int M t') { s with heap := h', toks := tk }) : wpAny (model prog w) A (call (.builtin "max") [.ref l]) Q E s := by
  obtain ⟨xs, e⟩ := hi.allInts.items
  have hn : numsOf (intItems xs).toList = ns := by rw [← e]; exact hi.numsOf
  rw [nums_intItems] at hn
  subst hn
  rw [e] at hl
  have hsz : 0 < xs.size := by simpa using hne
  refine max_intTup hh hl hsz fun v h' tk hv hk => ?_
  obtain ⟨t, rfl⟩ := intItems_at hv
  obtain ⟨h1, h2⟩ := argBest_gt (numAt xs) (xs.size - 1)
  refine h h' tk _ t hk ?_ fun a ha => ?_
  · rw [numAt_eq]; exact PySem.getD_mem (by rw [List.length_map, Array.length_toList]; omega)
  · obtain ⟨j, hj, rfl⟩ := mem_getD ha
    rw [List.length_map, Array.length_toList] at hj
    rw [← numAt_eq]; exact h2 j (by omega)
end
end HT
namespace L2
open PySem PySem.Spec PyProof.Rows
def rMaxLT (K : PySem.W.Frag) : List V → Hp → VK → Prop := fun vs H Q => ∃ (a : Addr) (ns : List Int), vs = [V.ref a] ∧ (SqL K H a (ns.map V.int) ∨ SqT K H a (ns.map V.int)) ∧ 0 < ns.length ∧ ∀ m, m ∈ ns → (∀ y, y ∈ ns → y ≤ m) → Q (.int m) H
theorem cr_maxLT {X : Cx} (hc : X.calm = true) : CallR X (.builtin "max") (rMaxLT X.K) := by
  intro pins s σ H vs us Q I r h
  obtain ⟨a, ns, rfl, hs, hne, q⟩ := h
  rw [Vals.ref1 r]
  rcases hs with hs | hs
  · obtain ⟨its, rv, hl, _⟩ := I.list hs
    exact max_raw (I.ok.hd hc) hl.isList rv.ints hne fun h' tk m t' hk h1 h2 => ⟨.int _, H, I.kept hk, ⟨_, rfl⟩, q m h1 h2⟩
  · obtain ⟨its, rv, hl, _⟩ := I.tuple hs
    exact HT.maxT_raw (I.ok.hd hc) hl rv.ints hne fun h' tk m t' hk h1 h2 => ⟨.int _, H, I.kept hk, ⟨_, rfl⟩, q m h1 h2⟩
/-- the tuple at a as it stands at each turn, each item in a new pair -/
def IteT (K : PySem.W.Frag) (a : Addr) : It :=
  ⟨fun i H => ∃ (xs : List V) (x : V), SqT K H a xs ∧ xs[i]? = some x, fun i H v H' => ∃ T x, v = .ref T ∧ H T = none ∧ H' = upd H T (.tup [.int (i : Nat), x]) ∧ ∀ xs, SqT K H a xs → xs[i]? = some x, fun i H => ∃ xs : List V, SqT K H a xs ∧ xs.length = i⟩
theorem turn_enumT {P : Program} {w : World} {K : PySem.W.Frag} {elts : List Expr} {kk : Nat} {tpos : Pos} (a e it : Addr) :
    Turn P w K (.Tuple elts kk tpos) (IteT K a) [e, it] e (fun i h => (∃ old, IsEnum h e it ((i : Nat) : Int) old) ∧ h.IsTupleIter it a i ∧ e ≠ it) where
  mem := by simp
  obj := fun i h st b hb => by
    obtain ⟨⟨old, he⟩, ⟨o, ho, hc, hd⟩, _⟩ := st
    have e' : b = e ∨ b = it := by simpa using hb
    rcases e' with z | z
    · rw [z]; exact ⟨_, he, fun v q => nomatch q⟩
    · rw [z]; exact ⟨o, ho, fun v q => by rw [hd] at q; cases q⟩
  keep := fun i h h' st k => let ⟨⟨old, he⟩, hi, hne⟩ := st; ⟨⟨old, k e (by simp) _ he⟩, hi.at fun o q => k it (by simp) o q, hne⟩
  item := by
    intro X hP hw hK hc i pins s σ H E I hf st hg
    subst hP hw hK
    obtain ⟨⟨old, he⟩, hit, hne⟩ := st
    obtain ⟨xs, x, hq, hx⟩ := hg
    obtain ⟨its, rv, p, hz⟩ := I.tuple hq
    obtain ⟨u, hu, ru⟩ := rv.get hx
    have hel : e < s.heap.objs.size := Heap.lt_size he
    have hil : it < s.heap.objs.size := by obtain ⟨_, q, _⟩ := hit; exact Heap.lt_size q
    obtain ⟨ot, hot, _⟩ := id p
    have hea : e ≠ a := by
      intro z
      obtain ⟨o1, h1, h2, _⟩ := id p
      rw [← z, he] at h1
      cases h1
      exact absurd (show Value.type "enumerate" = Value.type "tuple" from h2) (by decide)
    have hta : a ≠ it := by
      intro z
      obtain ⟨o1, h1, h2, _⟩ := id p
      obtain ⟨o2, h3, h4, _⟩ := id hit
      rw [z, h3] at h1
      cases h1
      rw [h4] at h2
      exact absurd h2 (by decide)
    have hlt : i < its.toArray.size := by
      rw [List.size_toArray]
      exact (List.getElem?_eq_some_iff.mp hu).1
    refine wpAny_pyNext_enum_itemD (Draws.tuple (A := X.A.in1) (I.ok.hd hc) it a hta its.toArray) he ⟨hit, p⟩ hlt hne (by simp [hne, hea]) fun x' h' tk hP ho st' hT hsz hk => ?_
    have ex : x' = u := by
      have q : its.toArray[i]? = some x' := hP
      rw [List.getElem?_toArray, hu] at q
      exact (Option.some.inj q).symm
    subst ex
    refine ⟨_, rfl, wpAny_letOwnedTupleGo_enum (s := { s with heap := h', toks := tk + 1 }) ho fun h'' he' sb => ?_⟩
    have hT2 : h''.get? s.heap.objs.size = some { cls := .type "tuple", data := .seq #[.int i tk, x'] } := (sb.2 _ (Nat.ne_of_gt hel)).trans hT
    have new : ObjOk X.prog X.w (upd H s.heap.objs.size (.tup [.int (i : Nat), x])) h'' s.heap.objs.size (.tup [.int (i : Nat), x]) :=
      ⟨by show 2 ≤ sizeLine; decide, [.int i tk, x'], .cons ⟨_, rfl⟩ (.cons ru .nil), ⟨_, hT2, rfl, _, rfl⟩⟩
    have I1 : Inv X pins σ (upd H s.heap.objs.size (.tup [.int (i : Nat), x])) { s with heap := h'', toks := tk + 1 } :=
      I.turnedNew (ch := [e, it]) (fun b ob hb q => (sb.2 b (fun z => hb (by simp [z]))).trans (hk b ob (fun z => hb (by simp [z])) (fun z => hb (by simp [z])) q)) hf (Nat.le_refl _) new
    refine ⟨.ref s.heap.objs.size, _, I1, rfl, ⟨_, x, rfl, I.hok.fresh (Nat.le_refl _), rfl, fun ys hy => by rw [I.tuple_inj hy hq]; exact hx⟩, ⟨⟨x', ?_⟩, st'.1.at fun o q => (sb.2 it (Ne.symm hne)).trans q, hne⟩, fun b hb => ?_⟩
    · have e1 : ((i + 1 : Nat) : Int) = (i : Int) + 1 := by omega
      rw [e1]; exact he'
    · have hb' : b < s.heap.objs.size := by
        have e' : b = e ∨ b = it := by simpa using hb
        rcases e' with z | z
        · rw [z]; exact hel
        · rw [z]; exact hil
      rw [upd_ne (Nat.ne_of_lt hb')]
      exact (hf b hb).1
  done := by
    intro X hP hw hK hc i pins s σ H E I hf st hg
    subst hP hw hK
    obtain ⟨⟨old, he⟩, hit, hne⟩ := st
    obtain ⟨xs, hq, hx⟩ := hg
    obtain ⟨its, rv, p, hz⟩ := I.tuple hq
    obtain ⟨f0, f1, f2, f3, f4, f5⟩ := hf it (by simp)
    have hl := rv.length
    have hta : a ≠ it := by
      intro z
      obtain ⟨o1, h1, h2, _⟩ := id p
      obtain ⟨o2, h3, h4, _⟩ := id hit
      rw [z, h3] at h1
      cases h1
      rw [h4] at h2
      exact absurd h2 (by decide)
    have ei : its.toArray.size = i := by rw [List.size_toArray]; omega
    exact wpAny_pyNext_enum_endD (Draws.tuple (A := X.A.in1) (I.ok.hd hc) it a hta its.toArray) he ⟨by rw [ei]; exact hit, p⟩ fun h' eb => ⟨rfl, I.turned (t' := s.toks) (fun b o hb q => eb b o hb q) f0 f1 f3 f4 f5⟩
  self := fun A i s Q E st h => let ⟨⟨_, he⟩, _⟩ := st; wpAny_pyIter_enum he h
def iEnumLT (K : PySem.W.Frag) (ta : TA) : TI := fun σ H R => ta σ H fun vs H1 => ∃ a xs, vs = [.ref a] ∧ ((SqL K H1 a xs ∧ R (Ite K a) H1) ∨ (SqT K H1 a xs ∧ R (IteT K a) H1))
theorem pi_enumLT {X : Cx} {e : Expr} {ta : TA} {p pos tpos : Pos} {elts : List Expr} {kk : Nat} (hg : Gl X "enumerate") (hm : X.mg "enumerate" = none) (ha : PA X [e] ta) (hs : starEach [e] X.env = [(false, eval e X.env)] := by rfl) :
    PI X (.Tuple elts kk tpos) (.Call (.Name "enumerate" p) [e] [] pos) (iEnumLT X.K ta) := by
  refine ⟨fun pins s σ H R I h => ?_⟩
  refine Call_ (ld_blt I hg hm boot_enumerate (PyProof.Rows.callWith_type1 (thn (ha.run pos pins s σ H _ I h) fun us s1 ⟨vs, H1, I1, r1, q1⟩ => ?_) hs rfl))
  obtain ⟨a, xs, ex, q⟩ := q1
  subst ex
  cases r1 with
  | cons r rr =>
    cases rr
    cases r
    have out : ∀ b : Addr, b ∈ [s1.heap.objs.size + 1, s1.heap.objs.size] → s1.heap.objs.size ≤ b := fun b hb => by
      have e' : b = s1.heap.objs.size + 1 ∨ b = s1.heap.objs.size := by simpa using hb
      rcases e' with z | z
      · rw [z]; exact Nat.le_add_right _ _
      · rw [z]; exact Nat.le_refl _
    rcases q with ⟨hq, q⟩ | ⟨hq, q⟩
    · obtain ⟨its, rv, p', hz⟩ := I1.list hq
      refine call_enumerate_list p'.isList fun h' he hit hsz hk => wpAny_pyIter_enum he ?_
      have I2 : Inv X pins σ H1 { s1 with heap := h' } := I1.kept (t' := s1.toks) hk
      exact ⟨s1.heap.objs.size + 1, [s1.heap.objs.size + 1, s1.heap.objs.size], _, _, H1, rfl, I2, turn_enum a (s1.heap.objs.size + 1) s1.heap.objs.size, ⟨⟨.none, he⟩, hit, Nat.succ_ne_self _⟩, fun b hb => I1.fpOk (out b hb) (I1.hok.fresh (out b hb)), q⟩
    · obtain ⟨its, rv, p', hz⟩ := I1.tuple hq
      refine HT.enum1_begins (begins_tuple a its.toArray) p' fun h' he hit hsz hk => wpAny_pyIter_enum he ?_
      have I2 : Inv X pins σ H1 { s1 with heap := h' } := I1.kept (t' := s1.toks) hk
      exact ⟨s1.heap.objs.size + 1, [s1.heap.objs.size + 1, s1.heap.objs.size], _, _, H1, rfl, I2, turn_enumT a (s1.heap.objs.size + 1) s1.heap.objs.size, ⟨⟨.none, he⟩, ⟨_, hit, rfl, rfl⟩, Nat.succ_ne_self _⟩, fun b hb => I1.fpOk (out b hb) (I1.hok.fresh (out b hb)), q⟩
end L2

/-! L3D: the operations keep their promises; calls of built-ins, displays, places, slices. -/
namespace L3
open PySem PySem.Spec PyProof.Rows L2
section
variable {X : Cx} {Y : Wd} {W : WX} {U : Ev} {a b c e : Expr} {a' b' c' : E} {es : List Expr} {as' : Es} {pos p : Pos}

/-- the end of an operation: a told value -/
theorem fin_sh {G R H : Hp} {σ : L2.St} {en : En} {d : D} {Q : VK} {v : V} (S : Sep Y G R H σ en) (p : Pst Y W (okV Y) G R σ en (.ok (d, false) en) Q) (r : Rep Y G v d) : Q v H :=
  p v H G (Same.refl _) (Keep.refl _ _) S r
/-- .. a new shared thing -/
theorem fin_newG {G R H : Hp} {σ : L2.St} {en : En} {d : D} {Q : VK} {q : Addr} {o : HO} (S : Sep Y G R H σ en) (p : Pst Y W (okV Y) G R σ en (.ok (d, false) en) Q) (hq : H q = none) (r : Rep Y (upd G q o) (.ref q) d) (n : ∀ ps, o ≠ .tbl ps := by intro _ z; cases z) : Q (.ref q) (upd H q o) :=
  p _ _ (upd G q o) (same_new (S.gnone hq)) (Keep.refl _ _) (S.newG hq n) r
/-- .. a new owned thing -/
theorem fin_own {G R H : Hp} {σ : L2.St} {en : En} {d : D} {Q : VK} {q : Addr} {o : HO} (S : Sep Y G R H σ en) (p : Pst Y W (okV Y) G R σ en (.ok (d, true) en) Q) (hq : H q = none) (t : Top Y G (upd H q o) q d) : Q (.ref q) (upd H q o) :=
  p _ _ G (Same.refl _) (Keep.refl _ _) (S.new hq) ⟨q, rfl, ⟨S.gnone hq, S.rnone hq, t⟩, S.freeNew hq⟩

theorem Pk.int {G H : Hp} {v : V} {i : Int} (h : Pk Y G H v (.int i)) : v = .int i := by
  rcases h with h | ⟨a, _, t⟩
  · cases h; rfl
  · cases t
theorem Pk.bl {G H : Hp} {v : V} {i : Bool} (h : Pk Y G H v (.bl i)) : v = .bl i := by
  rcases h with h | ⟨a, _, t⟩
  · cases h; rfl
  · cases t
theorem Pk.str {G H : Hp} {v : V} {i : Str} (h : Pk Y G H v (.str i)) : v = .str i := by
  rcases h with h | ⟨a, _, t⟩
  · cases h; rfl
  · cases t
theorem Pk.tup {G H : Hp} {v : V} {ds : List D} (h : Pk Y G H v (.tup ds)) : ∃ a vs, v = .ref a ∧ SqT Y.K G a vs ∧ RepL Y G vs ds := by
  rcases h with h | ⟨a, _, t⟩
  · cases h with | tup h1 h2 => exact ⟨_, _, rfl, h1, h2⟩
  · cases t
theorem Pk.lst {G R H : Hp} {σ : L2.St} {en : En} {v : V} {ds : List D} (S : Sep Y G R H σ en) (h : Pk Y G H v (.lst ds)) : ∃ a vs, v = .ref a ∧ H a = some (.lst vs) ∧ RepL Y G vs ds := by
  rcases h with h | ⟨a, rfl, t⟩
  · cases h with | lst h1 h2 => exact ⟨_, _, rfl, S.gH _ _ h1, h2⟩
  · cases t with | lst h1 h2 => exact ⟨_, _, rfl, h1, h2⟩
theorem Pk.fls {G H : Hp} {v : V} {ds : List D} (h : Pk Y G H v (.fls ds)) : ∃ a vs, v = .ref a ∧ SqL Y.K G a vs ∧ RepL Y G vs ds := by
  rcases h with h | ⟨a, _, t⟩
  · cases h with | fls h1 h2 => exact ⟨_, _, rfl, h1, h2⟩
  · cases t
theorem Pk.obj {G R H : Hp} {σ : L2.St} {en : En} {v : V} {c : Nat} {ns : List Str} {ds : List D} (S : Sep Y G R H σ en) (h : Pk Y G H v (.obj c ns ds)) : ∃ a dx fs, v = .ref a ∧ Y.ok c ∧ H a = some (.ins (Y.ca c) dx fs) ∧ fs.map (·.1) = ns ∧ RepL Y G (fs.map (·.2)) ds := by
  rcases h with h | ⟨a, rfl, t⟩
  · cases h with | obj h0 h1 h2 h3 h4 => exact ⟨_, _, _, rfl, h0, S.gH _ _ h1, h3, h4⟩
  · cases t with | obj h0 h1 h2 h3 h4 => exact ⟨_, _, _, rfl, h0, h1, h3, h4⟩
theorem Pk.dct {G R H : Hp} {σ : L2.St} {en : En} {v : V} {ks : List Key} {ds : List D} (S : Sep Y G R H σ en) (h : Pk Y G H v (.dct ks ds)) : ∃ a kvs, v = .ref a ∧ H a = some (.dK kvs) ∧ kvs.map (·.1) = ks ∧ RepL Y G (kvs.map (·.2)) ds := by
  rcases h with h | ⟨a, rfl, t⟩
  · cases h with | dct h1 h2 h3 => exact ⟨_, _, rfl, S.gH _ _ h1, h2, h3⟩
  · cases t with | dct h1 h2 h3 => exact ⟨_, _, rfl, h1, h2, h3⟩
theorem pk1 {G H : Hp} {vs : List V} {d : D} (h : PkL Y G H vs [d]) : ∃ v, vs = [v] ∧ Pk Y G H v d := by
  match vs, h with
  | [v], h => exact ⟨v, rfl, h.1⟩
  | _ :: _ :: _, h => exact h.2.elim
theorem pk2 {G H : Hp} {vs : List V} {d f : D} (h : PkL Y G H vs [d, f]) : ∃ v u, vs = [v, u] ∧ Pk Y G H v d ∧ Pk Y G H u f := by
  match vs, h with
  | [v, u], h => exact ⟨v, u, rfl, h.1, h.2.1⟩
  | [_], h => exact h.2.elim
  | _ :: _ :: _ :: _, h => exact h.2.2.elim
theorem pk3 {G H : Hp} {vs : List V} {d f g : D} (h : PkL Y G H vs [d, f, g]) : ∃ v u w, vs = [v, u, w] ∧ Pk Y G H v d ∧ Pk Y G H u f ∧ Pk Y G H w g := by
  match vs, h with
  | [v, u, w], h => exact ⟨v, u, w, rfl, h.1, h.2.1, h.2.2.1⟩
  | [_], h => exact h.2.elim
  | [_, _], h => exact h.2.2.elim
  | _ :: _ :: _ :: _ :: _, h => exact h.2.2.2.elim


/-! ### shapes -/
theorem i1_some {f : Int → Rn} {ds : List D} {p : D × Bool} (e : i1 f ds = some p) : ∃ i, ds = [.int i] ∧ f i = some p := by
  unfold i1 at e
  split at e
  · exact ⟨_, rfl, e⟩
  · cases e
theorem i2_some {f : Int → Int → Rn} {ds : List D} {p : D × Bool} (e : i2 f ds = some p) : ∃ i j, ds = [.int i, .int j] ∧ f i j = some p := by
  unfold i2 at e
  split at e
  · exact ⟨_, _, rfl, e⟩
  · cases e
theorem a1_some {f : D → Rn} {ds : List D} {p : D × Bool} (e : a1 f ds = some p) : ∃ d, ds = [d] ∧ f d = some p := by
  unfold a1 at e
  split at e
  · exact ⟨_, rfl, e⟩
  · cases e
theorem a2_some {f : D → D → Rn} {ds : List D} {p : D × Bool} (e : a2 f ds = some p) : ∃ d g, ds = [d, g] ∧ f d g = some p := by
  unfold a2 at e
  split at e
  · exact ⟨_, _, rfl, e⟩
  · cases e
theorem l1_some {f : List D → Rn} {ds : List D} {p : D × Bool} (e : l1 f ds = some p) : ∃ xs, ds = [.lst xs] ∧ f xs = some p := by
  unfold l1 at e
  split at e
  · exact ⟨_, rfl, e⟩
  · cases e
theorem oB_some {r : Option Bool} {p : D × Bool} (e : oB r = some p) : ∃ b, r = some b ∧ p = (.bl b, false) := by
  cases r with
  | none => cases e
  | some b => cases e; exact ⟨b, rfl, rfl⟩
theorem oI_some {r : Option Int} {p : D × Bool} (e : oI r = some p) : ∃ b, r = some b ∧ p = (.int b, false) := by
  cases r with
  | none => cases e
  | some b => cases e; exact ⟨b, rfl, rfl⟩
theorem gd_some {c : Bool} {r p : D × Bool} (e : gd c r = some p) : c = true ∧ p = r := by
  unfold gd at e
  split at e
  · cases e; exact ⟨by assumption, rfl⟩
  · cases e
theorem fit_le {n : Nat} (h : fit n = true) : n ≤ sizeLine := of_decide_eq_true h

/-! ### numbers -/
abbrev P2 (Y : Wd) (W : WX) (o : Op) (r : R2) : Prop := PrimN Y W o fun vs H Q => ∀ x y, vs = [x, y] → r x y H Q
abbrev P1 (Y : Wd) (W : WX) (o : Op) (r : V → Hp → VK → Prop) : Prop := PrimN Y W o fun vs H Q => ∀ x, vs = [x] → r x H Q
theorem P2.mk {o : Op} {r : R2} (h : ∀ (G R H : Hp) (σ : L2.St) (en : En) (x y : V) (ds : List D) (p : D × Bool) (Q : VK), Sep Y G R H σ en → PkL Y G H [x, y] ds → o.run ds = some p → Pst Y W (okV Y) G R σ en (.ok p en) Q → r x y H Q) : P2 Y W o r :=
  fun G R H σ en vs ds p Q S hp e pq x y hv => by subst hv; exact h G R H σ en x y ds p Q S hp e pq
theorem P1.mk {o : Op} {r : V → Hp → VK → Prop} (h : ∀ (G R H : Hp) (σ : L2.St) (en : En) (x : V) (ds : List D) (p : D × Bool) (Q : VK), Sep Y G R H σ en → PkL Y G H [x] ds → o.run ds = some p → Pst Y W (okV Y) G R σ en (.ok p en) Q → r x H Q) : P1 Y W o r :=
  fun G R H σ en vs ds p Q S hp e pq x hv => by subst hv; exact h G R H σ en x ds p Q S hp e pq
theorem P2.int {o : Op} {C : Int → Int → Prop} {g : Int → Int → V} {f : Int → Int → Rn} (h : ∀ ds, o.run ds = i2 f ds) (q : ∀ i j p, f i j = some p → C i j ∧ p.2 = false ∧ ∀ G, Rep Y G (g i j) p.1) : P2 Y W o (rI C g) :=
  .mk fun G R H σ en x y ds p Q S hp e pq => by
    rw [h] at e
    obtain ⟨i, j, rfl, e⟩ := i2_some e
    obtain ⟨c, k, r⟩ := q i j p e
    obtain ⟨d, own⟩ := p
    cases k
    exact ⟨i, j, hp.1.int, hp.2.1.int, c, fin_sh S pq (r G)⟩
theorem P2.int0 {o : Op} {g : Int → Int → V} {f : Int → Int → Rn} (h : ∀ ds, o.run ds = i2 f ds) (q : ∀ i j p, f i j = some p → p.2 = false ∧ ∀ G, Rep Y G (g i j) p.1) : P2 Y W o (rI0 g) :=
  .mk fun G R H σ en x y ds p Q S hp e pq => by
    rw [h] at e
    obtain ⟨i, j, rfl, e⟩ := i2_some e
    obtain ⟨k, r⟩ := q i j p e
    obtain ⟨d, own⟩ := p
    cases k
    exact ⟨i, j, hp.1.int, hp.2.1.int, fin_sh S pq (r G)⟩
theorem P2.or {o : Op} {r r' : R2} (h : P2 Y W o (fun x y H Q => r x y H Q ∨ r' x y H Q)) : P2 Y W o (fun x y H Q => r x y H Q ∨ r' x y H Q) := h

def rMulA (i j : Int) : Prop := CMul i j ∨ CMulW i j
theorem op_mulA : OpR X (binaryOp .Mult) (rI rMulA fun i j => .int (i * j)) := fun pins s σ H x y v u Q I rx ry ⟨i, j, e1, e2, c, q⟩ => by
  rcases c with c | c
  · exact op_mul pins s σ H x y v u Q I rx ry ⟨i, j, e1, e2, c, q⟩
  · exact op_mulW pins s σ H x y v u Q I rx ry ⟨i, j, e1, e2, c, q⟩
def rDivA (i j : Int) : Prop := CDiv i j ∨ CDivW i j
theorem op_divA : OpR X (binaryOp .FloorDiv) (rI rDivA fun i j => .int (i / j)) := fun pins s σ H x y v u Q I rx ry ⟨i, j, e1, e2, c, q⟩ => by
  rcases c with c | c
  · exact op_fdiv pins s σ H x y v u Q I rx ry ⟨i, j, e1, e2, c, q⟩
  · exact op_fdivW pins s σ H x y v u Q I rx ry ⟨i, j, e1, e2, c, q⟩
theorem p_sub : P2 Y W .sub (rI0 fun i j => .int (i - j)) := .int0 (fun _ => rfl) fun i j p e => by cases e; exact ⟨rfl, fun _ => .int _⟩
theorem p_mul : P2 Y W .mul (rI rMulA fun i j => .int (i * j)) := .int (fun _ => rfl) fun i j p e => by
  obtain ⟨c, rfl⟩ := gd_some e
  refine ⟨?_, rfl, fun _ => .int _⟩
  rcases Bool.or_eq_true_iff.mp c with c | c
  · exact .inl (of_decide_eq_true c)
  · exact .inr (show CMulW i j from (of_decide_eq_true c : i.natAbs.log2 + j.natAbs.log2 < 1000000))
theorem p_fdiv : P2 Y W .fdiv (rI rDivA fun i j => .int (i / j)) := .int (fun _ => rfl) fun i j p e => by
  obtain ⟨c, rfl⟩ := gd_some e
  refine ⟨?_, rfl, fun _ => .int _⟩
  rcases Bool.or_eq_true_iff.mp c with c | c
  · exact .inl (of_decide_eq_true c)
  · exact .inr (show CDivW i j from (of_decide_eq_true c : 0 < j ∧ j.natAbs.log2 < 9000))
theorem p_mod : P2 Y W .mod (rI (fun _ j => 0 < j) fun i j => .int (i % j)) := .int (fun _ => rfl) fun i j p e => by
  obtain ⟨c, rfl⟩ := gd_some e
  exact ⟨of_decide_eq_true c, rfl, fun _ => .int _⟩
theorem p_pow : P2 Y W .pow (rI CPow fun i j => .int (i ^ j.toNat)) := .int (fun _ => rfl) fun i j p e => by
  obtain ⟨c, rfl⟩ := gd_some e
  exact ⟨of_decide_eq_true c, rfl, fun _ => .int _⟩
theorem p_shl : P2 Y W .shl (rI CPow fun i j => .int (i * 2 ^ j.toNat)) := .int (fun _ => rfl) fun i j p e => by
  obtain ⟨c, rfl⟩ := gd_some e
  exact ⟨of_decide_eq_true c, rfl, fun _ => .int _⟩
theorem p_shr : P2 Y W .shr (rI (fun _ j => 0 ≤ j) fun i j => .int (i / 2 ^ j.toNat)) := .int (fun _ => rfl) fun i j p e => by
  obtain ⟨c, rfl⟩ := gd_some e
  exact ⟨of_decide_eq_true c, rfl, fun _ => .int _⟩
theorem p_band : P2 Y W .band (rI0 fun i j => .int (Builtin.bitAnd i j)) := .int0 (fun _ => rfl) fun i j p e => by cases e; exact ⟨rfl, fun _ => .int _⟩
theorem p_bor : P2 Y W .bor (rI0 fun i j => .int (Builtin.bitOr i j)) := .int0 (fun _ => rfl) fun i j p e => by cases e; exact ⟨rfl, fun _ => .int _⟩
theorem p_bxor : P2 Y W .bxor (rI0 fun i j => .int (Builtin.bitXor i j)) := .int0 (fun _ => rfl) fun i j p e => by cases e; exact ⟨rfl, fun _ => .int _⟩
theorem p_le : P2 Y W .le (rI0 fun i j => .bl (decide (i ≤ j))) := .int0 (fun _ => rfl) fun i j p e => by cases e; exact ⟨rfl, fun _ => .bl _⟩
theorem p_gt : P2 Y W .gt (rI0 fun i j => .bl (decide (j < i))) := .int0 (fun _ => rfl) fun i j p e => by cases e; exact ⟨rfl, fun _ => .bl _⟩
theorem p_ge : P2 Y W .ge (rI0 fun i j => .bl (decide (j ≤ i))) := .int0 (fun _ => rfl) fun i j p e => by cases e; exact ⟨rfl, fun _ => .bl _⟩
theorem p_neg : P1 Y W .neg (rU fun i => .int (-i)) := .mk fun G R H σ en x ds p Q S hp e pq => by
  obtain ⟨i, rfl, e⟩ := i1_some (show i1 _ ds = some p from e)
  cases e
  exact ⟨i, hp.1.int, fin_sh S pq (.int _)⟩

/-! ### + -/
theorem op_addA : OpR X (binaryOp .Add) (fun x y H Q => rI0 (fun i j => .int (i + j)) x y H Q ∨ rCatA X.K x y H Q ∨ rCat x y H Q ∨ (∃ i j, x = .str i ∧ y = .str j ∧ i.length + j.length ≤ sizeLine ∧ Q (.str (i ++ j)) H)) :=
  op_add.or (op_catA.or (op_cat.or op_add_str))
theorem p_add (hK : X.K = Y.K) : P2 Y W .add (fun x y H Q => rI0 (fun i j => .int (i + j)) x y H Q ∨ rCatA X.K x y H Q ∨ rCat x y H Q ∨ (∃ i j, x = .str i ∧ y = .str j ∧ i.length + j.length ≤ sizeLine ∧ Q (.str (i ++ j)) H)) :=
  .mk fun G R H σ en x y ds p Q S hp e pq => by
    have e : rAdd3 ds = some p := e
    unfold rAdd3 at e
    split at e
    · cases e
      exact .inl ⟨_, _, hp.1.int, hp.2.1.int, fin_sh S pq (.int _)⟩
    · rename_i xs ys e0
      obtain ⟨f, rfl⟩ := gd_some e
      obtain ⟨a, vs, rfl, h1, r1⟩ := hp.1.tup
      obtain ⟨b, us, rfl, h2, r2⟩ := hp.2.1.tup
      refine .inr (.inl ⟨a, b, vs, us, rfl, rfl, by rw [hK]; exact Same.seqT S.gH h1, by rw [hK]; exact Same.seqT S.gH h2, by rw [r1.length, r2.length]; exact fit_le f, fun z => ?_, fun z z2 => ?_, fun _ _ q hq => ?_⟩)
      · subst z
        have : xs = [] := by cases r1; rfl
        subst this
        exact fin_sh S pq (.tup h2 r2)
      · subst z2
        have : ys = [] := by cases r2; rfl
        subst this
        rw [List.append_nil] at pq
        exact fin_sh S pq (.tup h1 r1)
      · exact fin_newG S pq hq (.tup (.inl (.inl upd_same)) ((r1.append r2).mono (same_new (S.gnone hq))))
    · obtain ⟨f, rfl⟩ := gd_some e
      obtain ⟨a, vs, rfl, h1, r1⟩ := hp.1.lst S
      obtain ⟨b, us, rfl, h2, r2⟩ := hp.2.1.lst S
      exact .inr (.inr (.inl ⟨a, b, vs, us, rfl, rfl, h1, h2, by rw [r1.length, r2.length]; exact fit_le f, fun q hq => fin_own S pq hq (.lst upd_same (r1.append r2))⟩))
    · obtain ⟨f, rfl⟩ := gd_some e
      exact .inr (.inr (.inr ⟨_, _, hp.1.str, hp.2.1.str, fit_le f, fin_sh S pq (.str _)⟩))
    · cases e
/-! ### [..] * n -/
theorem flat_rep {G : Hp} {vs : List V} {ds : List D} (r : RepL Y G vs ds) : ∀ n : Nat, RepL Y G (List.replicate n vs).flatten (List.replicate n ds).flatten
  | 0 => .nil
  | n + 1 => by
    rw [List.replicate_succ, List.replicate_succ, List.flatten_cons, List.flatten_cons]
    exact r.append (flat_rep r n)
theorem op_repA : OpR X (binaryOp .Mult) (fun x y H Q => rRep x y H Q ∨ rRepT X.K x y H Q) := op_rep.or op_repT
theorem p_rep (hK : X.K = Y.K) : P2 Y W .rep (fun x y H Q => rRep x y H Q ∨ rRepT X.K x y H Q) := .mk fun G R H σ en x y ds p Q S hp e pq => by
  have e : rRep3 ds = some p := e
  unfold rRep3 at e
  split at e
  · obtain ⟨f, rfl⟩ := gd_some e
    obtain ⟨f1, f2⟩ := Bool.and_eq_true_iff.mp f
    obtain ⟨f3, f4⟩ := of_decide_eq_true f1
    obtain ⟨a, vs, rfl, h1, r1⟩ := hp.1.lst S
    refine .inl ⟨a, _, vs, rfl, hp.2.1.int, h1, f3, f4, by rw [r1.length]; exact fit_le f2, fun q hq => ?_⟩
    exact fin_own S pq hq (.lst upd_same (flat_rep r1 _))
  · obtain ⟨f, rfl⟩ := gd_some e
    obtain ⟨f1, f2, f3, f4⟩ := of_decide_eq_true f
    obtain ⟨a, vs, rfl, h1, r1⟩ := hp.1.tup
    refine .inr ⟨a, _, vs, rfl, hp.2.1.int, by rw [hK]; exact Same.seqT S.gH h1, fun z => ?_, f1, f2, by rw [r1.length]; exact f3, fun q hq => ?_⟩
    · have := r1.length
      rw [z] at this
      simp at this
      omega
    · exact fin_newG S pq hq (.tup (.inl (.inl upd_same)) ((flat_rep r1 _).mono (same_new (S.gnone hq))))
  · cases e

/-! ### == -/
mutual
theorem Rep.dp {K : PySem.W.Frag} {G H : Hp} (hK : K = Y.K) (s : Same G H) : ∀ {d : D} {v : V} {q : PyData}, Rep Y G v d → toPy d = some q → Dp K H v q
  | .non, _, _, h, e => by cases h; cases e; exact .non
  | .bl b, _, _, h, e => by cases h; cases e; exact .bl b
  | .int i, _, _, h, e => by cases h; cases e; exact .int i
  | .str z, _, _, h, e => by cases h; cases e; exact .str z
  | .tup ds, _, _, h, e => by
    cases h with | tup h1 h2 =>
      simp only [toPy] at e
      split at e
      · rename_i ps e2
        cases e
        exact .tup (by rw [hK]; exact Same.seqT s h1) (RepL.dp hK s h2 e2)
      · cases e
  | .lst ds, _, _, h, e => by
    cases h with | lst h1 h2 =>
      simp only [toPy] at e
      split at e
      · rename_i ps e2
        cases e
        exact .lst (.inl (.inl (s _ _ h1))) (RepL.dp hK s h2 e2)
      · cases e
  | .fls _, _, _, _, e => by cases e
  | .dct _ _, _, _, _, e => by cases e
  | .set _, _, _, _, e => by cases e
  | .obj _ _ _, _, _, _, e => by cases e
  | .exc _ _ _, _, _, _, e => by cases e
  | .thk _ _, _, _, _, e => by cases e
theorem RepL.dp {K : PySem.W.Frag} {G H : Hp} (hK : K = Y.K) (s : Same G H) : ∀ {ds : List D} {vs : List V} {qs : List PyData}, RepL Y G vs ds → toPys ds = some qs → DpAll K H vs qs
  | [], _, _, h, e => by cases h; cases e; exact .nil
  | d :: ds, _, _, h, e => by
    cases h with | cons h1 h2 =>
      simp only [toPys] at e
      split at e
      · rename_i q qs e1 e2
        cases e
        exact .cons (Rep.dp hK s h1 e1) (RepL.dp hK s h2 e2)
      · cases e
end
theorem Pk.dp {G R H : Hp} {σ : L2.St} {en : En} {K : PySem.W.Frag} {v : V} {d : D} {q : PyData} (hK : K = Y.K) (S : Sep Y G R H σ en) (h : Pk Y G H v d) (e : toPy d = some q) : Dp K H v q := by
  rcases h with h | ⟨a, rfl, t⟩
  · exact h.dp hK S.gH e
  · cases t with
    | lst h1 h2 =>
      simp only [toPy] at e
      split at e
      · rename_i ps e2
        cases e
        exact .lst (.inl (.inl h1)) (h2.dp hK S.gH e2)
      · cases e
    | dct => cases e
    | obj => cases e
theorem eqD_some {a b : D} {r : Bool} (e : eqD a b = some r) : ∃ p q, toPy a = some p ∧ toPy b = some q ∧ SeqAt.shaped p = true ∧ SeqAt.shaped q = true ∧ r = PyData.eqv p q := by
  unfold eqD at e
  split at e
  · rename_i p q e1 e2
    split at e
    · rename_i h
      cases e
      obtain ⟨h1, h2⟩ := Bool.and_eq_true_iff.mp h
      exact ⟨p, q, e1, e2, h1, h2, rfl⟩
    · cases e
  · cases e
theorem p_eq (hK : X.K = Y.K) : P2 Y W .eq (rEqD X.K) := .mk fun G R H σ en x y ds p Q S hp e pq => by
  obtain ⟨d, f, rfl, e⟩ := a2_some (show a2 _ ds = some p from e)
  obtain ⟨b, e9, rfl⟩ := oB_some e
  obtain ⟨q1, q2, e1, e2, s1, s2, rfl⟩ := eqD_some e9
  exact ⟨q1, q2, hp.1.dp hK S e1, hp.2.1.dp hK S e2, s1, s2, fin_sh S pq (.bl _)⟩
theorem p_ne (hK : X.K = Y.K) : P2 Y W .ne (rNeD X.K) := .mk fun G R H σ en x y ds p Q S hp e pq => by
  obtain ⟨d, f, rfl, e⟩ := a2_some (show a2 _ ds = some p from e)
  obtain ⟨b, e9, rfl⟩ := oB_some e
  cases e3 : eqD d f with
  | none => rw [e3] at e9; cases e9
  | some r =>
    rw [e3] at e9
    cases e9
    obtain ⟨q1, q2, e1, e2, s1, s2, rfl⟩ := eqD_some e3
    exact ⟨q1, q2, hp.1.dp hK S e1, hp.2.1.dp hK S e2, s1, s2, fin_sh S pq (.bl _)⟩
theorem Pk.isNon {G H : Hp} {v : V} {d : D} (h : Pk Y G H v d) : decide (v = .non) = isNone d := by
  rcases h with h | ⟨a, rfl, t⟩
  · cases h <;> rfl
  · cases t <;> rfl
theorem p_isN : P1 Y W .isN (fun x H Q => Q (.bl (decide (x = .non))) H) := .mk fun G R H σ en x ds p Q S hp e pq => by
  obtain ⟨d, rfl, e⟩ := a1_some (show a1 _ ds = some p from e)
  cases e
  rw [hp.1.isNon]
  exact fin_sh S pq (.bl _)
theorem p_notN : P1 Y W .notN (fun x H Q => Q (.bl (!decide (x = .non))) H) := .mk fun G R H σ en x ds p Q S hp e pq => by
  obtain ⟨d, rfl, e⟩ := a1_some (show a1 _ ds = some p from e)
  cases e
  rw [hp.1.isNon]
  exact fin_sh S pq (.bl _)

/-! ### places, slices, lengths -/
theorem RepL.atI {G : Hp} {vs : List V} {ds : List D} {i : Int} {d : D} (r : RepL Y G vs ds) (e : atI ds i = some d) : ∃ v, L2.atI vs i = some v ∧ Rep Y G v d := by
  unfold L2.atI at e ⊢
  rw [r.length]
  cases q : ixN ds.length i with
  | none => rw [q] at e; cases e
  | some j => rw [q] at e; exact r.get e
theorem p_idx (hK : X.K = Y.K) : P2 Y W .idx (rIx X.K) := .mk fun G R H σ en x y ds p Q S hp e pq => by
  have e : rIdx3 ds = some p := e
  unfold rIdx3 at e
  split at e
  · split at e
    · rename_i d e2
      cases e
      obtain ⟨a, vs, rfl, h1, r1⟩ := hp.1.tup
      obtain ⟨v, e3, r3⟩ := r1.atI e2
      exact .inr (.inl ⟨a, vs, _, v, rfl, hp.2.1.int, by rw [hK]; exact Same.seqT S.gH h1, e3, fin_sh S pq r3⟩)
    · cases e
  · split at e
    · rename_i d e2
      cases e
      obtain ⟨a, vs, rfl, h1, r1⟩ := hp.1.lst S
      obtain ⟨v, e3, r3⟩ := r1.atI e2
      exact .inl ⟨a, vs, _, v, rfl, hp.2.1.int, .inl (.inl h1), e3, fin_sh S pq r3⟩
    · cases e
  · cases e
theorem RepL.cut {G : Hp} {vs : List V} {ds : List D} (r : RepL Y G vs ds) (lo hi : Option Int) : RepL Y G (cutV vs lo hi) (L3.cut ds lo hi) := by
  unfold cutV L3.cut
  rw [r.length]
  exact (r.drop _).take _
def rSl (K : PySem.W.Frag) : V → Option Int → Option Int → Hp → VK → Prop := fun x lo hi H Q => rSlL K x lo hi H Q ∨ rSlA K x lo hi H Q
theorem sl_any : SlR X (rSl X.K) := sl_list.or sl_tupA
theorem sIx_self {α : Type} (xs : List α) (lo hi : Option Int) (h : HT.sIx xs.length 0 lo = 0 ∧ HT.sIx xs.length xs.length hi = xs.length) : L3.cut xs lo hi = xs := by
  unfold L3.cut
  rw [h.1, h.2]
  simp
theorem slice_ok (hK : X.K = Y.K) {G R H : Hp} {σ : L2.St} {en : En} {x : V} {d : D} {lo hi : Option Int} {p : D × Bool} {Q : VK} (S : Sep Y G R H σ en) (h : Pk Y G H x d) (e : slice3 d lo hi = some p) (pq : Pst Y W (okV Y) G R σ en (.ok p en) Q) : rSl X.K x lo hi H Q := by
  unfold slice3 at e
  split at e
  · rename_i xs
    cases e
    obtain ⟨a, vs, rfl, h1, r1⟩ := h.tup
    refine .inr ⟨a, vs, rfl, by rw [hK]; exact Same.seqT S.gH h1, fun z => ?_, fun _ q hq => ?_⟩
    · rw [sIx_self xs lo hi (by rw [← r1.length]; exact z)] at pq
      exact fin_sh S pq (.tup h1 r1)
    · exact fin_newG S pq hq (.tup (.inl (.inl upd_same)) ((r1.cut lo hi).mono (same_new (S.gnone hq))))
  · cases e
    obtain ⟨a, vs, rfl, h1, r1⟩ := h.lst S
    exact .inl ⟨a, vs, rfl, .inl (.inl h1), fun q hq => fin_own S pq hq (.lst upd_same (r1.cut lo hi))⟩
  · cases e
    obtain ⟨a, vs, rfl, h1, r1⟩ := h.fls
    exact .inl ⟨a, vs, rfl, by rw [hK]; exact S.gH.seq h1, fun q hq => fin_own S pq hq (.lst upd_same (r1.cut lo hi))⟩
  · cases e
/-- one argument, by a built-in -/
abbrev C1 (Y : Wd) (W : WX) (o : Op) (r : List V → Hp → VK → Prop) : Prop := PrimN Y W o r
theorem C1.mk {o : Op} {f : D → Rn} {r : List V → Hp → VK → Prop} (h0 : ∀ ds, o.run ds = a1 f ds) (h : ∀ (G R H : Hp) (σ : L2.St) (en : En) (x : V) (d : D) (p : D × Bool) (Q : VK), Sep Y G R H σ en → Pk Y G H x d → f d = some p → Pst Y W (okV Y) G R σ en (.ok p en) Q → r [x] H Q) : PrimN Y W o r :=
  fun G R H σ en vs ds p Q S hp e pq => by
    rw [h0] at e
    obtain ⟨d, rfl, e⟩ := a1_some e
    obtain ⟨v, rfl, hv⟩ := pk1 hp
    exact h G R H σ en v d p Q S hv e pq
theorem p_len (hK : X.K = Y.K) : PrimN Y W .len (fun xs H Q => ∃ q ys, xs = [.ref q] ∧ (SqL X.K H q ys ∨ SqT X.K H q ys) ∧ Q (.int ys.length) H) := C1.mk (fun _ => rfl) fun G R H σ en x d p Q S hp e pq => by
  unfold rLen3 at e
  split at e
  · cases e
    obtain ⟨a, vs, rfl, h1, r1⟩ := hp.tup
    exact ⟨a, vs, rfl, .inr (by rw [hK]; exact Same.seqT S.gH h1), fin_sh S pq (by rw [r1.length]; exact .int _)⟩
  · cases e
    obtain ⟨a, vs, rfl, h1, r1⟩ := hp.lst S
    exact ⟨a, vs, rfl, .inl (.inl (.inl h1)), fin_sh S pq (by rw [r1.length]; exact .int _)⟩
  · cases e
    obtain ⟨a, vs, rfl, h1, r1⟩ := hp.fls
    exact ⟨a, vs, rfl, .inl (by rw [hK]; exact S.gH.seq h1), fin_sh S pq (by rw [r1.length]; exact .int _)⟩
  · cases e
theorem p_abs : PrimN Y W .abs (fun xs H Q => ∃ i, xs = [.int i] ∧ Q (.int (if i < 0 then -i else i)) H) := fun G R H σ en vs ds p Q S hp e pq => by
  obtain ⟨i, rfl, e⟩ := i1_some (show i1 _ ds = some p from e)
  cases e
  obtain ⟨v, rfl, hv⟩ := pk1 hp
  exact ⟨i, by rw [hv.int], fin_sh S pq (.int _)⟩
theorem p_int : PrimN Y W .int (fun xs H Q => (∃ i, xs = [.int i] ∧ Q (.int i) H) ∨ ∃ k, xs = [.bl k] ∧ Q (.int (if k then 1 else 0)) H) := fun G R H σ en vs ds p Q S hp e pq => by
  obtain ⟨i, rfl, e⟩ := i1_some (show i1 _ ds = some p from e)
  cases e
  obtain ⟨v, rfl, hv⟩ := pk1 hp
  exact .inl ⟨i, by rw [hv.int], fin_sh S pq (.int _)⟩
theorem p_min2 : PrimN Y W .min2 (fun xs H Q => ∃ i j, xs = [.int i, .int j] ∧ Q (.int (if j < i then j else i)) H) := fun G R H σ en vs ds p Q S hp e pq => by
  obtain ⟨i, j, rfl, e⟩ := i2_some (show i2 _ ds = some p from e)
  cases e
  obtain ⟨v, u, rfl, hv, hu⟩ := pk2 hp
  exact ⟨i, j, by rw [hv.int, hu.int], fin_sh S pq (.int _)⟩
theorem p_max2 : PrimN Y W .max2 (fun xs H Q => ∃ i j, xs = [.int i, .int j] ∧ Q (.int (if j > i then j else i)) H) := fun G R H σ en vs ds p Q S hp e pq => by
  obtain ⟨i, j, rfl, e⟩ := i2_some (show i2 _ ds = some p from e)
  cases e
  obtain ⟨v, u, rfl, hv, hu⟩ := pk2 hp
  exact ⟨i, j, by rw [hv.int, hu.int], fin_sh S pq (.int _)⟩
/-- one list, by a built-in -/
theorem C1.lst {o : Op} {f : List D → Rn} {r : List V → Hp → VK → Prop} (h0 : ∀ ds, o.run ds = l1 f ds) (h : ∀ (G R H : Hp) (σ : L2.St) (en : En) (a : Addr) (vs : List V) (ds : List D) (p : D × Bool) (Q : VK), Sep Y G R H σ en → H a = some (.lst vs) → RepL Y G vs ds → f ds = some p → Pst Y W (okV Y) G R σ en (.ok p en) Q → r [.ref a] H Q) : PrimN Y W o r :=
  fun G R H σ en vs ds p Q S hp e pq => by
    rw [h0] at e
    obtain ⟨xs, rfl, e⟩ := l1_some e
    obtain ⟨v, rfl, hv⟩ := pk1 hp
    obtain ⟨a, us, rfl, h1, r1⟩ := hv.lst S
    exact h G R H σ en a us xs p Q S h1 r1 e pq
theorem map_some {α β : Type} {o : Option α} {f : α → β} {b : β} (e : o.map f = some b) : ∃ a, o = some a ∧ f a = b := by
  cases o with
  | none => cases e
  | some a => cases e; exact ⟨a, rfl, rfl⟩
theorem p_sum : PrimN Y W .sum (rSum X.K) := C1.lst (fun _ => rfl) fun G R H σ en a vs ds p Q S h r e pq => by
  obtain ⟨b, e9, rfl⟩ := oI_some e
  obtain ⟨is, e8, rfl⟩ := map_some e9
  have := r.asI e8
  subst this
  exact ⟨a, is, rfl, .inl (.inl h), fin_sh S pq (.int _)⟩
theorem p_any : PrimN Y W .any (rAny X.K) := C1.lst (fun _ => rfl) fun G R H σ en a vs ds p Q S h r e pq => by
  obtain ⟨b, e9, rfl⟩ := oB_some e
  obtain ⟨is, e8, rfl⟩ := map_some e9
  have := r.asB e8
  subst this
  exact ⟨a, is, rfl, .inl (.inl h), fin_sh S pq (.bl _)⟩
theorem p_all : PrimN Y W .all (rAll X.K) := C1.lst (fun _ => rfl) fun G R H σ en a vs ds p Q S h r e pq => by
  obtain ⟨b, e9, rfl⟩ := oB_some e
  obtain ⟨is, e8, rfl⟩ := map_some e9
  have := r.asB e8
  subst this
  exact ⟨a, is, rfl, .inl (.inl h), fin_sh S pq (.bl _)⟩
theorem minL_ok : ∀ {l : List Int} {m : Int}, minL l = some m → m ∈ l ∧ ∀ y ∈ l, m ≤ y
  | [], _, e => by cases e
  | a :: r, m, e => by
    unfold minL at e
    split at e
    · rename_i e2
      cases e
      have : r = [] := by
        cases r with
        | nil => rfl
        | cons b r => unfold minL at e2; split at e2 <;> cases e2
      subst this
      simp
    · rename_i b e2
      cases e
      obtain ⟨h1, h2⟩ := minL_ok e2
      refine ⟨?_, fun y hy => ?_⟩
      · split
        · exact List.mem_cons_self
        · exact List.mem_cons_of_mem _ h1
      · rcases List.mem_cons.mp hy with rfl | hy
        · split <;> omega
        · have := h2 y hy
          split <;> omega
theorem maxL_ok : ∀ {l : List Int} {m : Int}, maxL l = some m → m ∈ l ∧ ∀ y ∈ l, y ≤ m
  | [], _, e => by cases e
  | a :: r, m, e => by
    unfold maxL at e
    split at e
    · rename_i e2
      cases e
      have : r = [] := by
        cases r with
        | nil => rfl
        | cons b r => unfold maxL at e2; split at e2 <;> cases e2
      subst this
      simp
    · rename_i b e2
      cases e
      obtain ⟨h1, h2⟩ := maxL_ok e2
      refine ⟨?_, fun y hy => ?_⟩
      · split
        · exact List.mem_cons_self
        · exact List.mem_cons_of_mem _ h1
      · rcases List.mem_cons.mp hy with rfl | hy
        · split <;> omega
        · have := h2 y hy
          split <;> omega
theorem p_min : PrimN Y W .min (rMin X.K) := C1.lst (fun _ => rfl) fun G R H σ en a vs ds p Q S h r e pq => by
  obtain ⟨b, e9, rfl⟩ := oI_some e
  cases e2 : asI ds with
  | none => rw [e2] at e9; cases e9
  | some is =>
    rw [e2] at e9
    have e : minL is = some b := e9
    have := r.asI e2
    subst this
    obtain ⟨h1, h2⟩ := minL_ok e
    refine ⟨a, is, rfl, .inl (.inl h), by cases is with | nil => cases e | cons => simp, fun m hm hle => ?_⟩
    have e3 : m = b := by
      have q1 := hle b h1
      have q2 := h2 m hm
      omega
    rw [e3]
    exact fin_sh S pq (.int _)
theorem p_max (hK : X.K = Y.K) : PrimN Y W .max (rMaxLT X.K) := C1.mk (fun _ => rfl) fun G R H σ en x d p Q S hp e pq => by
  have key : ∀ (ds : List D) (vs : List V) (a : Addr), RepL Y G vs ds → (SqL X.K H a vs ∨ SqT X.K H a vs) → oI ((asI ds).bind maxL) = some p → x = .ref a → rMaxLT X.K [x] H Q := by
    intro ds vs a r hs e8 ex
    obtain ⟨b, e9, rfl⟩ := oI_some e8
    cases e2 : asI ds with
    | none => rw [e2] at e9; cases e9
    | some is =>
      rw [e2] at e9
      have e : maxL is = some b := e9
      have := r.asI e2
      subst this
      obtain ⟨h1, h2⟩ := maxL_ok e
      refine ⟨a, is, by rw [ex], hs, by cases is with | nil => cases e | cons => simp, fun m hm hle => ?_⟩
      have e3 : m = b := by
        have q1 := hle b h1
        have q2 := h2 m hm
        omega
      rw [e3]
      exact fin_sh S pq (.int _)
  cases d with
  | lst xs =>
    obtain ⟨a, vs, rfl, h1, h2⟩ := hp.lst S
    exact key xs vs a h2 (.inl (.inl (.inl h1))) e rfl
  | tup xs =>
    obtain ⟨a, vs, rfl, h1, h2⟩ := hp.tup
    exact key xs vs a h2 (.inr (by rw [hK]; exact Same.seqT S.gH h1)) e rfl
  | _ => cases e
theorem p_tupOf (hK : X.K = Y.K) : PrimN Y W .tupOf (fun xs H Q => ∃ q ys, xs = [.ref q] ∧ ((SqL X.K H q ys ∧ ∀ l, H l = none → Q (.ref l) (upd H l (.tup ys))) ∨ (SqT X.K H q ys ∧ Q (.ref q) H))) := C1.mk (fun _ => rfl) fun G R H σ en x d p Q S hp e pq => by
  split at e
  · rename_i xs e2
    cases e
    unfold seqD2 at e2
    split at e2
    · cases e2
      obtain ⟨a, vs, rfl, h1, r1⟩ := hp.tup
      exact ⟨a, vs, rfl, .inr ⟨by rw [hK]; exact Same.seqT S.gH h1, fin_sh S pq (.tup h1 r1)⟩⟩
    · cases e2
      obtain ⟨a, vs, rfl, h1, r1⟩ := hp.lst S
      exact ⟨a, vs, rfl, .inl ⟨.inl (.inl h1), fun q hq => fin_newG S pq hq (.tup (.inl (.inl upd_same)) (r1.mono (same_new (S.gnone hq))))⟩⟩
    · cases e2
  · cases e
theorem p_lstOf (hK : X.K = Y.K) : PrimN Y W .lstOf (fun xs H Q => ∃ q ys, xs = [.ref q] ∧ (SqL X.K H q ys ∨ SqT X.K H q ys) ∧ ∀ l, H l = none → Q (.ref l) (upd H l (.lst ys))) := C1.mk (fun _ => rfl) fun G R H σ en x d p Q S hp e pq => by
  split at e
  · rename_i xs e2
    cases e
    unfold seqD2 at e2
    split at e2
    · cases e2
      obtain ⟨a, vs, rfl, h1, r1⟩ := hp.tup
      exact ⟨a, vs, rfl, .inr (by rw [hK]; exact Same.seqT S.gH h1), fun q hq => fin_own S pq hq (.lst upd_same r1)⟩
    · cases e2
      obtain ⟨a, vs, rfl, h1, r1⟩ := hp.lst S
      exact ⟨a, vs, rfl, .inl (.inl (.inl h1)), fun q hq => fin_own S pq hq (.lst upd_same r1)⟩
    · cases e2
  · cases e
theorem p_dnew : PrimN Y W .dnew (fun xs H Q => ∀ q, H q = none → Q (.ref q) (upd H q (.dK []))) := fun G R H σ en vs ds p Q S hp e pq q hq => by
  cases ds with
  | nil =>
    cases (show some (D.dct [] [], true) = some p from e)
    exact fin_own S pq hq (.dct (kvs := []) upd_same rfl .nil)
  | cons d ds => cases (show (none : Rn) = some p from e)
end
end L3

/-! L3E: built-ins by name, displays, places, slices, chains, attributes, isinstance. -/
namespace L3
open PySem PySem.Spec PyProof.Rows L2
section
variable {X : Cx} {Y : Wd} {W : WX} {U : Ev} {a b c e : Expr} {a' b' c' : E} {es : List Expr} {as' : Es} {pos p p2 : Pos} {o : Op}

/-- what a reading of arguments gives to an operation -/
theorem args_op {r : List V → Hp → VK → Prop} (h : PrimN Y W o r) (hk : o.keeps = false) {σ : L2.St} {H : Hp} {Q : VK} (q : rdE Y W U (.op o as') σ H Q) : rdA Y W U as' σ H fun vs H1 => r vs H1 Q := by
  obtain ⟨G, R, en, S, p⟩ := q
  rw [evE_op] at p
  exact ⟨G, R, en, S, Pst.bind p fun as en1 vs H1 G1 _ s1 k1 S1 o1 p1 => prim_fin h S1 (avs := as) o1 p1 hk⟩
theorem args_opK {r : List V → Hp → VK → Prop} (h : PrimK Y W o r) (hk : o.keeps = true) {σ : L2.St} {H : Hp} {Q : VK} (q : rdE Y W U (.op o as') σ H Q) : rdA Y W U as' σ H fun vs H1 => r vs H1 Q := by
  obtain ⟨G, R, en, S, p⟩ := q
  rw [evE_op] at p
  exact ⟨G, R, en, S, Pst.bind p fun as en1 vs H1 G1 _ s1 k1 S1 o1 p1 => prim_finK h S1 (avs := as) o1 p1 hk⟩
/-- f(e, ..), a built-in -/
theorem s_callB {x : Str} {id : String} {r : List V → Hp → VK → Prop} (hc : CallR X (.builtin id) r) (hk : o.keeps = false) (h : PrimN Y W o r) (hm : X.mg x = none) (hv : bootBuiltins x = some (.builtin id)) (ha : PA X (e :: es) (rdA Y W U as')) (hg : Gl X x := by rfl)
    (hn : x ≠ "__name__" := by decide) (hdb : (x == ("__debug__" : Str)) = false := by decide)
    (he : starEach (e :: es) X.env = (false, eval e X.env) :: starEach es X.env := by rfl) (hpl : (backTo pos (starEach es X.env)).any (·.1) = false := by rfl) : PE X (.Call (.Name x p) (e :: es) [] pos) (rdE Y W U (.op o as')) :=
  (pe_callB hc hg hm hv ha hn hdb he hpl).imp fun _ _ _ q => args_op h hk q
theorem s_callTy {x : Str} {T : String} {r : List V → Hp → VK → Prop} (hc : CallR X (.type T) r) (hk : o.keeps = false) (h : PrimN Y W o r) (hm : X.mg x = none) (hv : bootBuiltins x = some (.type T)) (ha : PA X (e :: es) (rdA Y W U as')) (hg : Gl X x := by rfl)
    (hn : x ≠ "__name__" := by decide) (hdb : (x == ("__debug__" : Str)) = false := by decide)
    (he : starEach (e :: es) X.env = (false, eval e X.env) :: starEach es X.env := by rfl) (hpl : (backTo pos (starEach es X.env)).any (·.1) = false := by rfl) : PE X (.Call (.Name x p) (e :: es) [] pos) (rdE Y W U (.op o as')) :=
  (pe_callTy hc hg hm hv ha hn hdb he hpl).imp fun _ _ _ q => args_op h hk q
/-! ### displays -/
theorem p_tup : PrimK Y W .tup (fun xs H Q => xs.length ≤ sizeLine ∧ ∀ q, H q = none → Q (.ref q) (upd H q (.tup xs))) := fun G R H σ en vs ds p Q S r e pq => by
  obtain ⟨f, rfl⟩ := gd_some (show gd _ _ = some p from e)
  exact ⟨by rw [r.length]; exact fit_le f, fun q hq => fin_newG S pq hq (.tup (.inl (.inl upd_same)) (r.mono (same_new (S.gnone hq))))⟩
theorem p_lst : PrimK Y W .lst (fun xs H Q => xs.length ≤ sizeLine ∧ ∀ q, H q = none → Q (.ref q) (upd H q (.lst xs))) := fun G R H σ en vs ds p Q S r e pq => by
  obtain ⟨f, rfl⟩ := gd_some (show gd _ _ = some p from e)
  exact ⟨by rw [r.length]; exact fit_le f, fun q hq => fin_own S pq hq (.lst upd_same r)⟩
theorem s_tup {k : Nat} (ha : PA X es (rdA Y W U as')) : PE X (.Tuple es k pos) (rdE Y W U (.op .tup as')) := (pe_tup ha).imp fun _ _ _ q => args_opK p_tup rfl q
theorem s_lst (ha : PA X es (rdA Y W U as')) : PE X (.List es pos) (rdE Y W U (.op .lst as')) := (pe_lst ha).imp fun _ _ _ q => args_opK p_lst rfl q
/-! ### o[i], o[i:j] -/
theorem s_idx (hK : X.K = Y.K) (ha : PE X a (rdX Y W U a')) (hb : PE X b (rdX Y W U b')) (hs : PlainIx b := by intro _ _; rfl) : PE X (.Subscript a b pos) (rdE Y W U (.op .idx (.cons a' (.cons b' .nil)))) := by
  refine (pe_ix ix_seq ha hb hs).imp fun σ H Q ⟨G, R, en, S, p⟩ => ⟨G, R, en, S, ?_⟩
  rw [evE_op2] at p
  refine Pst.bind p fun x en1 v H1 G1 _ s1 k1 S1 o1 p1 => rd.mk S1 (Pst.bind p1 fun y en2 u H2 G2 _ s2 k2 S2 o2 p2 => ?_)
  exact prim_fin (p_idx hK) S2 (vs := [v, u]) (avs := [x, y]) ⟨Aok.mono o1 s2, o2, trivial⟩ p2 rfl v u rfl
def okI : Hp → Hp → Hp → L2.St → En → Int → Int → Prop := fun _ _ _ _ _ a b => b = a
theorem toI_bind {G R : Hp} {σ : L2.St} {en : En} {r : Rs (D × Bool)} {Q : Int → Hp → Prop} (h : Pst Y W okI G R σ en (toI r) Q) : Pst Y W (okV Y) G R σ en r fun v H1 => ∃ c, v = .int c ∧ Q c H1 := by
  unfold toI at h
  refine Pst.bind h fun p en1 v H1 G1 _ s k S o p1 => ?_
  obtain ⟨d, own⟩ := p
  cases d with
  | int b =>
    cases own with
    | false =>
      have o : Rep Y G1 v (.int b) := o
      cases o
      exact ⟨b, rfl, p1 b H1 G1 (Same.refl _) (Keep.refl _ _) S rfl⟩
    | true =>
      obtain ⟨a, _, ⟨_, _, t⟩, _⟩ := o
      cases t
  | _ => exact p1.elim
theorem sl_fin (hK : X.K = Y.K) {G R H : Hp} {σ : L2.St} {en : En} {av : Av} {v : V} {Q : VK} {lo hi : Option Int} (S : Sep Y G R H σ en) (o : Aok Y G σ en v av) (p : Pst Y W (okV Y) G R σ en (slFin lo hi av en) Q) : rSl X.K v lo hi H Q := by
  unfold slFin at p
  split at p
  · exact p.elim
  · rename_i d e
    split at p
    · rename_i q e3
      exact slice_ok hK S (pk_of S o e) e3 p
    · exact p.elim
theorem s_sl0 (hK : X.K = Y.K) (ha : PE X a (rdX Y W U a')) : PE X (.Subscript a (.Slice none none none p2) pos) (rdE Y W U (.sl0 a')) := by
  refine (pe_slice sl_any ha po_none po_none).imp fun σ H Q ⟨G, R, en, S, p⟩ => ⟨G, R, en, S, ?_⟩
  rw [evE] at p
  exact Pst.bind p fun x en1 v H1 G1 _ s1 k1 S1 o1 p1 => sl_fin hK S1 o1 p1
theorem s_slA (hK : X.K = Y.K) (ha : PE X a (rdX Y W U a')) (hb : PE X b (rdE Y W U b')) : PE X (.Subscript a (.Slice (some b) none none p2) pos) (rdE Y W U (.slA a' b')) := by
  refine (pe_slice sl_any ha (po_some hb) po_none).imp fun σ H Q ⟨G, R, en, S, p⟩ => ⟨G, R, en, S, ?_⟩
  rw [evE] at p
  exact Pst.bind p fun x en1 v H1 G1 _ s1 k1 S1 o1 p1 => rd.mk S1 (toI_bind (Pst.bind p1 fun i en2 j H2 G2 _ s2 k2 S2 o2 p2 => by
    cases (show j = i from o2)
    exact sl_fin hK S2 (Aok.mono o1 s2) p2))
theorem s_slB (hK : X.K = Y.K) (ha : PE X a (rdX Y W U a')) (hb : PE X b (rdE Y W U b')) : PE X (.Subscript a (.Slice none (some b) none p2) pos) (rdE Y W U (.slB a' b')) := by
  refine (pe_slice sl_any ha po_none (po_some hb)).imp fun σ H Q ⟨G, R, en, S, p⟩ => ⟨G, R, en, S, ?_⟩
  rw [evE] at p
  exact Pst.bind p fun x en1 v H1 G1 _ s1 k1 S1 o1 p1 => rd.mk S1 (toI_bind (Pst.bind p1 fun i en2 j H2 G2 _ s2 k2 S2 o2 p2 => by
    cases (show j = i from o2)
    exact sl_fin hK S2 (Aok.mono o1 s2) p2))
theorem s_slC (hK : X.K = Y.K) (ha : PE X a (rdX Y W U a')) (hb : PE X b (rdE Y W U b')) (hc : PE X c (rdE Y W U c')) : PE X (.Subscript a (.Slice (some b) (some c) none p2) pos) (rdE Y W U (.slC a' b' c')) := by
  refine (pe_slice sl_any ha (po_some hb) (po_some hc)).imp fun σ H Q ⟨G, R, en, S, p⟩ => ⟨G, R, en, S, ?_⟩
  rw [evE] at p
  exact Pst.bind p fun x en1 v H1 G1 _ s1 k1 S1 o1 p1 => rd.mk S1 (toI_bind (Pst.bind p1 fun i en2 j H2 G2 _ s2 k2 S2 o2 p2 => by
    cases (show j = i from o2)
    exact rd.mk S2 (toI_bind (Pst.bind p2 fun i2 en3 j2 H3 G3 _ s3 k3 S3 o3 p3 => by
      cases (show j2 = i2 from o3)
      exact sl_fin hK S3 (Aok.mono (en := en2) (en' := en3) (Aok.mono (en' := en2) o1 s2) s3) p3))))
theorem avDs_1 {en : En} {x : Av} {ds : List D} (e : avDs en [x] = some ds) : ∃ d, avD en x = some d ∧ ds = [d] := by
  simp only [avDs] at e
  cases e1 : avD en x with
  | none => rw [e1] at e; cases e
  | some d => rw [e1] at e; cases e; exact ⟨d, rfl, rfl⟩
/-! ### a < b < c -/
theorem opB_fin {r : R2} (hk : o.keeps = false) (h : P2 Y W o r) {G R H : Hp} {σ : L2.St} {en : En} {x y : Av} {v u : V} {Q : Bool → Hp → Prop} (S : Sep Y G R H σ en) (o1 : Aok Y G σ en v x) (o2 : Aok Y G σ en u y)
    (p : Pst Y W okB G R σ en (toB (opFin o [x, y] en)) Q) : r v u H fun z H1 => ∃ k, z = .bl k ∧ Q k H1 :=
  prim_fin h S (vs := [v, u]) (avs := [x, y]) ⟨o1, o2, trivial⟩ (toB_bind p) hk v u rfl
theorem s_chn {op op2 : CmpOp} {o2 : Op} {r r' : R2} (ho : OpR X (compareOp op) r) (ho' : OpR X (compareOp op2) r') (hk : o.keeps = false) (hk2 : o2.keeps = false) (h : P2 Y W o r) (h' : P2 Y W o2 r')
    (ha : PE X a (rdX Y W U a')) (hb : PE X b (rdX Y W U b')) (hc : PE X c (rdX Y W U c')) (hm : lastMarks [op, op2] [b, c] = false := by rfl) :
    PE X (.Compare a [op, op2] [b, c] pos) (rdE Y W U (.chn o o2 a' b' c')) := by
  refine (pe_chain ho ho' ha hb hc hm).imp fun σ H Q ⟨G, R, en, S, p⟩ => ⟨G, R, en, S, ?_⟩
  rw [evE] at p
  refine Pst.bind p fun x en1 v H1 G1 _ s1 k1 S1 o1 p1 => rd.mk S1 (Pst.bind p1 fun y en2 u H2 G2 _ s2 k2 S2 o2' p2 => ?_)
  have q : Pst Y W okB G2 R σ en2 (toB (opFin o [x, y] en2)) fun k H3 => if k = true then rdX Y W U c' σ H3 fun w H4 => r' u w H4 Q else Q (.bl false) H3 := by
    refine Pst.bind p2 fun k en3 k' H3 G3 _ s3 k3 S3 o3 p3 => ?_
    cases (show k' = k from o3)
    cases k with
    | true =>
      rw [if_pos rfl] at p3 ⊢
      exact rd.mk S3 (Pst.bind p3 fun z en4 w H4 G4 _ s4 k4 S4 o4 p4 => prim_fin h' S4 (vs := [u, w]) (avs := [y, z]) ⟨Aok.mono (en := en3) (en' := en4) (Aok.mono (en' := en3) o2' s3) s4, o4, trivial⟩ p4 hk2 u w rfl)
    | false =>
      rw [if_neg (by decide)] at p3 ⊢
      exact p3 (.bl false) H3 G3 (Same.refl _) (Keep.refl _ _) S3 (.bl false)
  exact opB_fin hk h S2 (Aok.mono (en' := en2) o1 s2) o2' q
/-! ### o.f -/
theorem lookup_rep {G : Hp} : ∀ {fs : List (Str × V)} {ns : List Str} {ds : List D} {f : Str} {d : D}, fs.map (·.1) = ns → RepL Y G (fs.map (·.2)) ds → (ns.zip ds).lookup f = some d → ∃ v, fs.lookup f = some v ∧ Rep Y G v d
  | [], ns, ds, f, d, e, r, l => by
    subst e
    simp at l
  | (g, v) :: fs, ns, ds, f, d, e, r, l => by
    subst e
    cases r with | cons r1 r2 =>
      simp only [List.map_cons, List.zip_cons_cons, List.lookup_cons] at l ⊢
      cases q : f == g with
      | true => rw [q] at l; cases l; exact ⟨v, rfl, r1⟩
      | false => rw [q] at l; exact lookup_rep rfl r2 l
theorem s_fld {f : Str} (hcl : ∀ c, Y.ok c → Cls X.K (Y.ca c) ∧ NoAttr X.K (Y.ca c) f) (ha : PE X a (rdX Y W U a')) (hb : attributeBase a f X.env (eval a X.env) = eval a X.env := by rfl) : PE X (.Attribute a f pos) (rdE Y W U (.op (.fld f) (.cons a' .nil))) := by
  refine (pe_fld ha hb).imp fun σ H Q ⟨G, R, en, S, p⟩ => ⟨G, R, en, S, ?_⟩
  rw [evE_op1] at p
  refine Pst.bind p fun x en1 v H1 G1 _ s1 k1 S1 o1 p1 => ?_
  unfold opFin at p1
  rw [show (Op.fld f).keeps = false from rfl] at p1
  split at p1
  · exact p1.elim
  · rename_i ds e
    obtain ⟨d, e1, rfl⟩ := avDs_1 e
    have pk := pk_of S1 o1 e1
    split at p1
    · rename_i q e3
      obtain ⟨d', e4, e5⟩ := a1_some (show a1 (fldD f) [d] = some q from e3)
      cases e4
      unfold fldD at e5
      split at e5
      · rename_i c ns xs
        split at e5
        · rename_i d2 e6
          cases e5
          obtain ⟨ad, dx, fs, rfl, h0, h1, h2, h3⟩ := pk.obj S1
          obtain ⟨w, h4, h5⟩ := lookup_rep h2 h3 e6
          obtain ⟨c1, c2⟩ := hcl c h0
          exact ⟨ad, _, dx, fs, w, rfl, h1, c1, c2, h4, fin_sh S1 p1 h5⟩
        · cases e5
      · cases e5
    · exact p1.elim
theorem s_not (ha : PE X a (rdE Y W U a')) : PE X (.UnaryOp .Not a pos) (rdE Y W U (.nt a')) := by
  refine (pe_not ha).imp fun σ H Q ⟨G, R, en, S, p⟩ => ⟨G, R, en, S, ?_⟩
  rw [evE] at p
  refine toB_bind (Q := fun c H1 => Q (.bl (!c)) H1) (Pst.bind p fun k en1 v H1 G1 _ s1 k1 S1 o1 p1 => ?_)
  cases (show v = k from o1)
  exact p1 _ H1 G1 (Same.refl _) (Keep.refl _ _) S1 (.bl _)
theorem t_not (ha : PT X a (rdT Y W U a')) : PT X (.UnaryOp .Not a pos) (rdT Y W U (.nt a')) := by
  refine (pt_not ha).imp fun σ H Q ⟨G, R, en, S, p⟩ => ⟨G, R, en, S, ?_⟩
  dsimp only at p
  rw [evE, toB, Rs.bind_assoc] at p
  refine Pst.bind p fun k en1 v H1 G1 _ s1 k1 S1 o1 p1 => ?_
  cases (show v = k from o1)
  exact p1 _ H1 G1 (Same.refl _) (Keep.refl _ _) S1 rfl
/-! ### isinstance -/
def tyN : Ty → String
  | .int => "int" | .bool => "bool" | .str => "str" | .tup => "tuple" | .lst => "list" | .dct => "dict" | .cls _ => ""
def dN : D → Option String
  | .non => some "NoneType" | .bl _ => some "bool" | .int _ => some "int" | .str _ => some "str" | .tup _ => some "tuple" | .lst _ => some "list" | .dct _ _ => some "dict" | _ => none
/-- a class in an isinstance: a built-in one, or the program's own -/
inductive TyV (Y : Wd) : Ty → Value → Prop
  | bi {t : Ty} (h : ∀ c, t ≠ .cls c) : TyV Y t (.type (tyN t))
  | own (c : Nat) : Y.ok c → TyV Y (.cls c) (.ref (Y.ca c))
/-- what the program's classes say of isinstance -/
structure IsC (Y : Wd) (K : PySem.W.Frag) : Prop where
  ins : ∀ c, Y.ok c → Cls K (Y.ca c) ∧ PySem.W.findIn K (.ref (Y.ca c)) "__class__" = some (some (.builtin "object.__class__")) ∧ PySem.W.specialIn K (.builtin "object.__class__") "__get__" = some (some (.builtin "getset_descriptor.__get__")) ∧
    PySem.W.takesIn K (.builtin "object.__class__") = some true ∧ PySem.W.mroIn K (Y.ca c) (.type "object") = some true
  kit : ∀ t c d, Y.ok c → dN d = some t → PySem.W.kitOne K (.type t) (.ref (Y.ca c)) = some false
  own : ∀ c c', Y.ok c → Y.ok c' → PySem.W.kitOne K (.ref (Y.ca c)) (.ref (Y.ca c')) = some (decide (c' = c))
  bi : ∀ c t, Y.ok c → (∀ c', t ≠ .cls c') → PySem.W.kitOne K (.ref (Y.ca c)) (.type (tyN t)) = some false
theorem kit_bi {d : D} {t : Ty} {n : String} {r : Bool} (h : ∀ c, t ≠ .cls c) (e : dN d = some n) (q : isTy t d = some r) (K : PySem.W.Frag) : PySem.W.kitOne K (.type n) (.type (tyN t)) = some r := by
  cases d <;> cases e <;> cases t <;> first | (cases q; exact kit_ty (by decide +kernel)) | exact absurd rfl (h _)
theorem kit_some {t : Ty} {u : Value} {d : D} {r : Bool} {n : String} {K : PySem.W.Frag} (I : IsC Y K) (tv : TyV Y t u) (e : dN d = some n) (q : isTy t d = some r) : PySem.W.kitOne K (.type n) u = some r := by
  cases tv with
  | bi h => exact kit_bi h e q K
  | own c hc =>
    rw [I.kit n c d hc e]
    cases d <;> cases e <;> (cases q; rfl)
theorem kit_obj {t : Ty} {u : Value} {c : Nat} {ns : List Str} {xs : List D} {r : Bool} {K : PySem.W.Frag} (I : IsC Y K) (hc : Y.ok c) (tv : TyV Y t u) (q : isTy t (.obj c ns xs) = some r) : PySem.W.kitOne K (.ref (Y.ca c)) u = some r := by
  cases tv with
  | bi h =>
    rw [I.bi c t hc h]
    cases t <;> first | (cases q; rfl) | exact absurd rfl (h _)
  | own c' hc' =>
    rw [I.own c c' hc hc']
    cases q; rfl
theorem kitAny_some {K : PySem.W.Frag} {tt : Value} {d : D} (h : ∀ t u r, TyV Y t u → isTy t d = some r → PySem.W.kitOne K tt u = some r) : ∀ {ts : List Ty} {us : List Value} {r : Bool}, Paired (TyV Y) ts us → isTys ts d = some r → PySem.W.kitAny K tt us = some r
  | [], _, r, .nil, q => by cases q; rfl
  | t :: ts, _, r, .cons h1 h2, q => by
    simp only [isTys] at q
    split at q
    · rename_i a b e1 e2
      cases q
      have k1 := h _ _ _ h1 e1
      have k2 := kitAny_some h h2 e2
      cases a with
      | true => exact kitAny_cons k1 (fun z => nomatch z) (fun _ => rfl)
      | false => exact kitAny_cons k1 (fun _ => by simpa using k2) (fun z => nomatch z)
    · cases q
/-- the type of what stands there -/
theorem pk_ty {G R H : Hp} {σ : L2.St} {en : En} {v : V} {d : D} {n : String} {K : PySem.W.Frag} (hK : K = Y.K) (S : Sep Y G R H σ en) (h : Pk Y G H v d) (e : dN d = some n) : TyX K H v (.type n) := by
  cases d with
  | non => cases e; rcases h with h | ⟨a, _, t⟩; (cases h; exact .base .non); cases t
  | bl b => cases e; rw [h.bl]; exact .base (.bl b)
  | int b => cases e; rw [h.int]; exact .base (.int b)
  | str b => cases e; rw [h.str]; exact .base (.str b)
  | tup ds =>
    cases e
    obtain ⟨a, vs, rfl, h1, _⟩ := h.tup
    rcases Same.seqT S.gH h1 with (h1 | ⟨o, h1⟩) | ⟨o, its, k, h1, h2, _⟩
    · exact .base (.tup h1)
    · exact .fTuple h1
    · exact .kTuple (by rw [hK]; exact h1) h2
  | lst ds =>
    cases e
    obtain ⟨a, vs, rfl, h1, _⟩ := h.lst S
    exact .base (.lst h1)
  | dct ks ds =>
    cases e
    obtain ⟨a, vs, rfl, h1, _⟩ := h.dct S
    exact .base (.dK h1)
  | _ => cases e
theorem isTys_dN {d : D} : ∀ {ts : List Ty} {r : Bool}, ts ≠ [] → isTys ts d = some r → (∃ n, dN d = some n) ∨ ∃ c ns xs, d = .obj c ns xs
  | [], _, h, _ => absurd rfl h
  | t :: ts, r, _, q => by
    simp only [isTys] at q
    split at q
    · rename_i a b e1 e2
      cases d <;> first | exact .inl ⟨_, rfl⟩ | exact .inr ⟨_, _, _, rfl⟩ | (cases t <;> cases e1)
    · cases q
/-- isinstance(x, T) and isinstance(x, (T, ..)): cs the classes as they stand, us their values -/
theorem s_isi {t0 : Ty} {u : Value} {cv : V} {tc : Expr} (hK : X.K = Y.K) (I : IsC Y X.K) (hm : X.mg "isinstance" = none) (tv : TyV Y t0 u) (ck : ClsV cv u) (htc : PE X tc (tC cv)) (ha : PE X a (rdX Y W U a')) (hg : Gl X "isinstance" := by rfl)
    (he : starEach (a :: [tc]) X.env = (false, eval a X.env) :: starEach [tc] X.env := by rfl) (he2 : starEach (tc :: []) X.env = (false, eval tc X.env) :: starEach [] X.env := by rfl) (hpl : (backTo pos (starEach [tc] X.env)).any (·.1) = false := by rfl) :
    PE X (.Call (.Name "isinstance" p) [a, tc] [] pos) (rdE Y W U (.op (.isi [t0]) (.cons a' .nil))) := by
  refine (pe_callB call_isi hg hm (by decide +kernel) (pa_cons ha (pa_cons htc pa_nil he2) he) (by decide) (by decide) he hpl).imp fun σ H Q ⟨G, R, en, S, p⟩ => ⟨G, R, en, S, ?_⟩
  rw [evE_op1] at p
  refine Pst.bind p fun y en1 v H1 G1 _ s1 k1 S1 o1 p1 => ?_
  show rIsi X.K [v, cv] H1 Q
  refine prim_fin (o := .isi [t0]) (r := fun vs H Q => ∀ v, vs = [v] → rIsi X.K [v, cv] H Q) ?_ S1 (vs := [v]) (avs := [y]) ⟨o1, trivial⟩ p1 rfl v rfl
  intro G R H σ en vs ds p Q S hp e pq v ev
  subst ev
  obtain ⟨d, rfl, e⟩ := a1_some (show a1 (fun d => oB (isTys [t0] d)) ds = some p from e)
  obtain ⟨r, e9, rfl⟩ := oB_some e
  have e8 : isTy t0 d = some r := by
    simp only [isTys] at e9
    cases q : isTy t0 d with
    | none => rw [q] at e9; cases e9
    | some r' => rw [q] at e9; simpa using e9
  rcases isTys_dN (by simp) e9 with ⟨n, hn⟩ | ⟨c, ns, xs, rfl⟩
  · exact ⟨v, cv, _, u, r, rfl, ck, pk_ty hK S hp.1 hn, kit_some I tv hn e8, fin_sh S pq (.bl _)⟩
  · obtain ⟨ad, dx, fs, rfl, h0, h1, h2, h3⟩ := hp.1.obj S
    obtain ⟨i1, i2, i3, i4, i5⟩ := I.ins c h0
    exact ⟨.ref ad, cv, _, u, r, rfl, ck, .base (.ins h1 i1 i2 i3 i4 i5), kit_obj I h0 tv e8, fin_sh S pq (.bl _)⟩
end
end L3

/-! L3F: what is walked; list comprehensions; calls. -/
namespace L3
open PySem PySem.Spec PyProof.Rows L2
section
variable {X : Cx} {Y : Wd} {W : WX} {U : Ev} {a b c e : Expr} {a' b' c' : E} {es : List Expr} {as' : Es} {pos p p2 : Pos} {tg : Expr}

/-- isinstance(x, (T, ..)) -/
theorem s_isiT {ts : List Ty} {us : List Value} {cvs : List V} {tcs : List Expr} {k : Nat} {p3 : Pos} (hK : X.K = Y.K) (I : IsC Y X.K) (hm : X.mg "isinstance" = none) (tv : Paired (TyV Y) ts us) (ck : Paired ClsV cvs us) (hn : ts ≠ []) (hl : cvs.length ≤ sizeLine)
    (htc : PA X tcs (fun _ H Q => Q cvs H)) (ha : PE X a (rdX Y W U a')) (hg : Gl X "isinstance" := by rfl)
    (he : starEach (a :: [.Tuple tcs k p3]) X.env = (false, eval a X.env) :: starEach [.Tuple tcs k p3] X.env := by rfl) (he2 : starEach ((.Tuple tcs k p3) :: []) X.env = (false, eval (.Tuple tcs k p3) X.env) :: starEach [] X.env := by rfl) (hpl : (backTo pos (starEach [.Tuple tcs k p3] X.env)).any (·.1) = false := by rfl) :
    PE X (.Call (.Name "isinstance" p) [a, .Tuple tcs k p3] [] pos) (rdE Y W U (.op (.isi ts) (.cons a' .nil))) := by
  refine (pe_callB call_isiT hg hm (by decide +kernel) (pa_cons ha (pa_cons (pe_tup htc) pa_nil he2) he) (by decide) (by decide) he hpl).imp fun σ H Q ⟨G, R, en, S, p⟩ => ⟨G, R, en, S, ?_⟩
  rw [evE_op1] at p
  refine Pst.bind p fun y en1 v H1 G1 _ s1 k1 S1 o1 p1 => ?_
  refine ⟨hl, fun q hq => ?_⟩
  show rIsiT X.K [v, .ref q] (upd H1 q (.tup cvs)) Q
  refine prim_fin (o := .isi ts) (r := fun vs H Q => ∀ v, vs = [v] → H q = some (.tup cvs) → rIsiT X.K [v, .ref q] H Q) ?_ (S1.new hq) (vs := [v]) (avs := [y]) ⟨o1, trivial⟩ p1 rfl v rfl upd_same
  intro G R H σ en vs ds p Q S hp e pq v ev hT
  subst ev
  obtain ⟨d, rfl, e⟩ := a1_some (show a1 (fun d => oB (isTys ts d)) ds = some p from e)
  obtain ⟨r, e9, rfl⟩ := oB_some e
  rcases isTys_dN hn e9 with ⟨n, hn⟩ | ⟨c, ns, xs, rfl⟩
  · exact ⟨v, q, cvs, _, us, r, rfl, hT, ck, pk_ty hK S hp.1 hn, kitAny_some (fun t u r tv q => kit_some I tv hn q) tv e9, fin_sh S pq (.bl _)⟩
  · obtain ⟨ad, dx, fs, rfl, h0, h1, h2, h3⟩ := hp.1.obj S
    obtain ⟨i1, i2, i3, i4, i5⟩ := I.ins c h0
    exact ⟨.ref ad, q, cvs, _, us, r, rfl, hT, ck, .base (.ins h1 i1 i2 i3 i4 i5), kitAny_some (fun t u r tv q => kit_obj I h0 tv q) tv e9, fin_sh S pq (.bl _)⟩
theorem pa_c0 : PA X [] (fun _ H Q => Q ([] : List V) H) := pa_nil
theorem pa_c1 {v : V} {vs : List V} (h1 : PE X a (tC v)) (h2 : PA X es (fun _ H Q => Q vs H)) (hs : starEach (a :: es) X.env = (false, eval a X.env) :: starEach es X.env := by rfl) : PA X (a :: es) (fun _ H Q => Q (v :: vs) H) := pa_cons h1 h2 hs

/-! ### what is walked -/
/-- J tells the items, one by one, whatever else happens -/
def Gives (Y : Wd) (J : It) (items : List D) (G : Hp) : Prop := ∀ (i : Nat) (G' R H : Hp) (σ : L2.St) (en : En), Same G G' → Sep Y G' R H σ en →
  (∀ d, items[i]? = some d → J.go i H ∧ ∀ x H', J.yld i H x H' → ∃ G'', Same G' G'' ∧ Sep Y G'' R H' σ en ∧ Rep Y G'' x d) ∧ (items.length = i → J.stop i H)
def okIt (Y : Wd) : Hp → Hp → Hp → L2.St → En → List D → It → Prop := fun G _ _ _ _ items J => Gives Y J items G
def evI (C : Nat → List (Bool × D) → CRes) (md : Nat → List Bool) (k : ItK) (as : Es) (en : En) : Rs (List D) := (evA C md as en).bind (itFin k)
abbrev rdI (Y : Wd) (W : WX) (U : Ev) (k : ItK) (as : Es) : TI := rd Y W (okIt Y) (evI U.C U.md k as)
theorem _root_.L2.PI.imp {X : Cx} {tg it : Expr} {t t' : TI} (h : PI X tg it t) (k : ∀ σ H Q, t' σ H Q → t σ H Q) : PI X tg it t' := ⟨fun p s σ H Q I q => h.run p s σ H Q I (k _ _ _ q)⟩
theorem itFin_bind {k : ItK} {G R : Hp} {σ : L2.St} {en : En} {as : Es} {RR : It → Hp → Prop} {Q1 : List V → Hp → Prop} (p : Pst Y W (okIt Y) G R σ en (evI U.C U.md k as en) RR)
    (h : ∀ G' H' en' vs ds items, Same G G' → Sep Y G' R H' σ en' → RepL Y G' vs ds → k.run ds = some items → (∀ J, Gives Y J items G' → RR J H') → Q1 vs H') : Pst Y W (okL Y) G R σ en (evA U.C U.md as en) Q1 := by
  refine Pst.bind p fun avs en1 vs H1 G1 _ s1 k1 S1 o1 p1 => ?_
  unfold itFin at p1
  split at p1
  · exact p1.elim
  · rename_i ds e
    split at p1
    · rename_i items e2
      exact h G1 H1 en1 vs ds items s1 S1 (repL_of o1 e) e2 fun J g => p1 J H1 G1 (Same.refl _) (Keep.refl _ _) S1 g
    · exact p1.elim
theorem repL1 {G : Hp} {vs : List V} {d : D} (h : RepL Y G vs [d]) : ∃ v, vs = [v] ∧ Rep Y G v d := by
  cases h with | cons h1 h2 => cases h2; exact ⟨_, rfl, h1⟩
theorem repL2 {G : Hp} {vs : List V} {d f : D} (h : RepL Y G vs [d, f]) : ∃ v u, vs = [v, u] ∧ Rep Y G v d ∧ Rep Y G u f := by
  cases h with | cons h1 h2 => cases h2 with | cons h2 h3 => cases h3; exact ⟨_, _, rfl, h1, h2⟩
theorem repL3 {G : Hp} {vs : List V} {d f g : D} (h : RepL Y G vs [d, f, g]) : ∃ v u w, vs = [v, u, w] ∧ Rep Y G v d ∧ Rep Y G u f ∧ Rep Y G w g := by
  cases h with | cons h1 h2 => cases h2 with | cons h2 h3 => cases h3 with | cons h3 h4 => cases h4; exact ⟨_, _, _, rfl, h1, h2, h3⟩
theorem gives_list {G : Hp} {a : Addr} {vs : List V} {ds : List D} (h : SqL Y.K G a vs) (r : RepL Y G vs ds) : Gives Y (Itl Y.K a) ds G := fun i G' R H σ en s S => by
  have hH : SqL Y.K H a vs := (s.trans S.gH).seq h
  refine ⟨fun d e => ?_, fun e => ⟨vs, hH, by rw [r.length, e]; exact Nat.le_refl _⟩⟩
  obtain ⟨v, e1, r1⟩ := r.get e
  refine ⟨⟨vs, v, hH, e1⟩, fun x H' ⟨eH, y⟩ => ?_⟩
  subst eH
  have := y vs hH
  rw [e1] at this; cases this
  exact ⟨G', Same.refl _, S, r1.mono s⟩
theorem gives_tup {G : Hp} {a : Addr} {vs : List V} {ds : List D} (h : SqT Y.K G a vs) (r : RepL Y G vs ds) : Gives Y (Itt Y.K a) ds G := fun i G' R H σ en s S => by
  have hH : SqT Y.K H a vs := Same.seqT (s.trans S.gH) h
  refine ⟨fun d e => ?_, fun e => ⟨vs, hH, by rw [r.length, e]; exact Nat.le_refl _⟩⟩
  obtain ⟨v, e1, r1⟩ := r.get e
  refine ⟨⟨vs, v, hH, e1⟩, fun x H' ⟨eH, y⟩ => ?_⟩
  subst eH
  have := y vs hH
  rw [e1] at this; cases this
  exact ⟨G', Same.refl _, S, r1.mono s⟩
theorem gives_rng {G : Hp} {lo : Int} {n : Nat} : Gives Y (Itr lo n) (rngI lo n) G := fun i G' R H σ en s S => by
  have hl : (rngI lo n).length = n := by simp [rngI]
  refine ⟨fun d e => ?_, fun e => by rw [hl] at e; exact Nat.le_of_eq e⟩
  have hi : i < n := by rw [← hl]; exact lt_of_get e
  have ed : d = .int (lo + (i : Int)) := by
    simp [rngI, List.getElem?_range hi] at e
    exact e.symm
  subst ed
  refine ⟨hi, fun x H' ⟨eH, ex⟩ => ?_⟩
  subst eH ex
  exact ⟨G', Same.refl _, S, .int _⟩
theorem gives_rngC {G : Hp} {lo cc : Int} {n : Nat} : Gives Y (Itc lo cc n) (rngC lo cc n) G := fun i G' R H σ en s S => by
  have hl : (rngC lo cc n).length = n := by simp [rngC]
  refine ⟨fun d e => ?_, fun e => by rw [hl] at e; exact Nat.le_of_eq e⟩
  have hi : i < n := by rw [← hl]; exact lt_of_get e
  have ed : d = .int (lo + (i : Int) * cc) := by
    simp [rngC, List.getElem?_range hi] at e
    exact e.symm
  subst ed
  refine ⟨hi, fun x H' ⟨eH, ex⟩ => ?_⟩
  subst eH ex
  exact ⟨G', Same.refl _, S, .int _⟩
theorem zipD_get : ∀ {xs ys : List D} {i : Nat} {d : D}, (zipD xs ys)[i]? = some d → ∃ x y, xs[i]? = some x ∧ ys[i]? = some y ∧ d = .tup [x, y]
  | [], ys, i, d, e => by simp [zipD] at e
  | x :: xs, [], i, d, e => by simp [zipD] at e
  | x :: xs, y :: ys, 0, d, e => by simp [zipD] at e; exact ⟨x, y, rfl, rfl, e.symm⟩
  | x :: xs, y :: ys, i + 1, d, e => by
    simp [zipD] at e
    obtain ⟨u, v, e1, e2, e3⟩ := zipD_get e
    exact ⟨u, v, by simpa using e1, by simpa using e2, e3⟩
theorem zipD_len : ∀ {xs ys : List D}, (zipD xs ys).length = xs.length ∨ (zipD xs ys).length = ys.length
  | [], ys => .inl rfl
  | x :: xs, [] => .inr rfl
  | x :: xs, y :: ys => by
    rcases zipD_len (xs := xs) (ys := ys) with h | h
    · exact .inl (by simp [zipD, h])
    · exact .inr (by simp [zipD, h])
theorem gives_zip {G : Hp} {a b : Addr} {vs us : List V} {ds fs : List D} (h : SqL Y.K G a vs) (h2 : SqL Y.K G b us) (r : RepL Y G vs ds) (r2 : RepL Y G us fs) : Gives Y (Itz Y.K a b) (zipD ds fs) G := fun i G' R H σ en s S => by
  have hH : SqL Y.K H a vs := (s.trans S.gH).seq h
  have hH2 : SqL Y.K H b us := (s.trans S.gH).seq h2
  refine ⟨fun d e => ?_, fun e => ⟨vs, us, hH, hH2, ?_⟩⟩
  · obtain ⟨x, y, e1, e2, rfl⟩ := zipD_get e
    obtain ⟨v, q1, t1⟩ := r.get e1
    obtain ⟨u, q2, t2⟩ := r2.get e2
    refine ⟨⟨vs, us, v, u, hH, hH2, q1, q2⟩, fun z H' ⟨T, x', y', ez, hT, eH, f1, f2⟩ => ?_⟩
    subst ez eH
    have g1 := f1 vs hH
    have g2 := f2 us hH2
    rw [q1] at g1; cases g1
    rw [q2] at g2; cases g2
    have sg : Same G' (upd G' T (.tup [v, u])) := same_new (S.gnone hT)
    exact ⟨_, sg, S.newG hT, .tup (.inl (.inl upd_same)) (.cons ((t1.mono s).mono sg) (.cons ((t2.mono s).mono sg) .nil))⟩
  · rw [r.length, r2.length, ← e]
    rcases zipD_len (xs := ds) (ys := fs) with h | h
    · exact .inl (Nat.le_of_eq h.symm)
    · exact .inr (Nat.le_of_eq h.symm)
theorem gives_zipT {G : Hp} {a b : Addr} {vs us : List V} {ds fs : List D} (h : SqT Y.K G a vs) (h2 : SqT Y.K G b us) (r : RepL Y G vs ds) (r2 : RepL Y G us fs) : Gives Y (RZ.ItzT Y.K a b) (zipD ds fs) G := fun i G' R H σ en s S => by
  have hH : SqT Y.K H a vs := Same.seqT (s.trans S.gH) h
  have hH2 : SqT Y.K H b us := Same.seqT (s.trans S.gH) h2
  refine ⟨fun d e => ?_, fun e => ⟨vs, us, hH, hH2, ?_⟩⟩
  · obtain ⟨x, y, e1, e2, rfl⟩ := zipD_get e
    obtain ⟨v, q1, t1⟩ := r.get e1
    obtain ⟨u, q2, t2⟩ := r2.get e2
    refine ⟨⟨vs, us, v, u, hH, hH2, q1, q2⟩, fun z H' ⟨T, x', y', ez, hT, eH, f1, f2⟩ => ?_⟩
    subst ez eH
    have g1 := f1 vs hH
    have g2 := f2 us hH2
    rw [q1] at g1; cases g1
    rw [q2] at g2; cases g2
    have sg : Same G' (upd G' T (.tup [v, u])) := same_new (S.gnone hT)
    exact ⟨_, sg, S.newG hT, .tup (.inl (.inl upd_same)) (.cons ((t1.mono s).mono sg) (.cons ((t2.mono s).mono sg) .nil))⟩
  · rw [r.length, r2.length, ← e]
    rcases zipD_len (xs := ds) (ys := fs) with h | h
    · exact .inl (Nat.le_of_eq h.symm)
    · exact .inr (Nat.le_of_eq h.symm)
theorem enmD_get : ∀ {xs : List D} {n i : Nat} {d : D}, (enmD n xs)[i]? = some d → ∃ x, xs[i]? = some x ∧ d = .tup [.int ((n + i : Nat) : Int), x]
  | [], n, i, d, e => by simp [enmD] at e
  | x :: xs, n, 0, d, e => by simp [enmD] at e; exact ⟨x, rfl, e.symm⟩
  | x :: xs, n, i + 1, d, e => by
    simp [enmD] at e
    obtain ⟨u, e1, e2⟩ := enmD_get e
    exact ⟨u, by simpa using e1, by rw [e2]; congr 3; omega⟩
theorem enmD_len : ∀ (xs : List D) (n : Nat), (enmD n xs).length = xs.length
  | [], _ => rfl
  | _ :: xs, n => by simp [enmD, enmD_len xs]
theorem gives_enm {G : Hp} {a : Addr} {vs : List V} {ds : List D} (h : SqL Y.K G a vs) (r : RepL Y G vs ds) : Gives Y (Ite Y.K a) (enmD 0 ds) G := fun i G' R H σ en s S => by
  have hH : SqL Y.K H a vs := (s.trans S.gH).seq h
  refine ⟨fun d e => ?_, fun e => ⟨vs, hH, by rw [r.length, ← e, enmD_len]; exact Nat.le_refl _⟩⟩
  obtain ⟨x, e1, rfl⟩ := enmD_get e
  obtain ⟨v, q1, t1⟩ := r.get e1
  refine ⟨⟨vs, v, hH, q1⟩, fun z H' ⟨T, x', ez, hT, eH, f1⟩ => ?_⟩
  subst ez eH
  have g1 := f1 vs hH
  rw [q1] at g1; cases g1
  have sg : Same G' (upd G' T (.tup [.int (i : Nat), v])) := same_new (S.gnone hT)
  refine ⟨_, sg, S.newG hT, .tup (.inl (.inl upd_same)) (.cons ?_ (.cons ((t1.mono s).mono sg) .nil))⟩
  rw [Nat.zero_add]
  exact .int _
theorem gives_enmT {G : Hp} {a : Addr} {vs : List V} {ds : List D} (h : SqT Y.K G a vs) (r : RepL Y G vs ds) : Gives Y (IteT Y.K a) (enmD 0 ds) G := fun i G' R H σ en s S => by
  have hH : SqT Y.K H a vs := Same.seqT (s.trans S.gH) h
  refine ⟨fun d e => ?_, fun e => ⟨vs, hH, by rw [r.length, ← e, enmD_len]⟩⟩
  obtain ⟨x, e1, rfl⟩ := enmD_get e
  obtain ⟨v, q1, t1⟩ := r.get e1
  refine ⟨⟨vs, v, hH, q1⟩, fun z H' ⟨T, x', ez, hT, eH, f1⟩ => ?_⟩
  subst ez eH
  have g1 := f1 vs hH
  rw [q1] at g1; cases g1
  have sg : Same G' (upd G' T (.tup [.int (i : Nat), v])) := same_new (S.gnone hT)
  refine ⟨_, sg, S.newG hT, .tup (.inl (.inl upd_same)) (.cons ?_ (.cons ((t1.mono s).mono sg) .nil))⟩
  rw [Nat.zero_add]
  exact .int _
theorem gives_rev {G : Hp} {a : Addr} {vs : List V} {ds : List D} (h : SqL Y.K G a vs) (r : RepL Y G vs ds) : Gives Y (Itv Y.K a vs.length) ds.reverse G := fun i G' R H σ en s S => by
  have hH : SqL Y.K H a vs := (s.trans S.gH).seq h
  refine ⟨fun d e => ?_, fun e => by show vs.length ≤ i; rw [r.length, ← e, List.length_reverse]; exact Nat.le_refl _⟩
  have hi : i < ds.length := by rw [← List.length_reverse]; exact lt_of_get e
  rw [List.getElem?_reverse hi] at e
  obtain ⟨v, q1, t1⟩ := r.get e
  rw [← r.length] at q1
  refine ⟨⟨by rw [r.length]; exact hi, vs, v, hH, q1⟩, fun z H' ⟨eH, f1⟩ => ?_⟩
  subst eH
  have g1 := f1 vs hH
  rw [q1] at g1; cases g1
  exact ⟨G', Same.refl _, S, t1.mono s⟩
theorem gives_revT {G : Hp} {a : Addr} {vs : List V} {ds : List D} (h : SqT Y.K G a vs) (r : RepL Y G vs ds) : Gives Y (RT.ItvT Y.K a vs.length) ds.reverse G := fun i G' R H σ en s S => by
  have hH : SqT Y.K H a vs := Same.seqT (s.trans S.gH) h
  refine ⟨fun d e => ?_, fun e => by show vs.length ≤ i; rw [r.length, ← e, List.length_reverse]; exact Nat.le_refl _⟩
  have hi : i < ds.length := by rw [← List.length_reverse]; exact lt_of_get e
  rw [List.getElem?_reverse hi] at e
  obtain ⟨v, q1, t1⟩ := r.get e
  rw [← r.length] at q1
  refine ⟨⟨by rw [r.length]; exact hi, vs, v, hH, q1⟩, fun z H' ⟨eH, f1⟩ => ?_⟩
  subst eH
  have g1 := f1 vs hH
  rw [q1] at g1; cases g1
  exact ⟨G', Same.refl _, S, t1.mono s⟩

theorem evI1 (C : Nat → List (Bool × D) → CRes) (md : Nat → List Bool) (k : ItK) (a : E) (en : En) : evI C md k (.cons a .nil) en = (argOf a (evE C md a en) en).bind fun x en => itFin k [x] en := by
  unfold evI
  rw [evA_cons, Rs.bind_assoc]
  rfl

/-- a list or a tuple is walked -/
theorem pi_any {tl : TE} (hl : PE X a tl) : PI X tg a (fun σ H RR => tl σ H fun x H1 => ∃ q, x = .ref q ∧ ((∃ xs, SqL X.K H1 q xs ∧ RR (Itl X.K q) H1) ∨ (∃ xs, SqT X.K H1 q xs ∧ RR (Itt X.K q) H1))) := by
  constructor
  intro pins s σ H RR I h
  have go := hl.run pins s σ H _ I h
  refine thn go ?_
  intro v s1 hv
  obtain ⟨x, H1, I1, r1, q, ex, hh⟩ := hv
  subst ex
  cases r1
  have fine : ∀ bb ∈ [s1.heap.objs.size], FpOk X pins H1 bb := by
    intro bb hb
    rw [List.mem_singleton] at hb
    subst hb
    exact I1.fpOk (Nat.le_refl _) I1.fresh
  have kept : ∀ ob, Inv X pins σ H1 { s1 with heap := s1.heap.push ob } := fun ob => I1.kept (t' := s1.toks) fun bb o eo => Heap.get?_push_of_some _ eo
  rcases hh with ⟨xs, hq, hR⟩ | ⟨xs, hq, hR⟩
  · obtain ⟨its, _, pl, _⟩ := I1.list hq
    refine wpAny_pyIter_list pl.isList ⟨s1.heap.objs.size, [s1.heap.objs.size], _, _, H1, rfl, kept _, turn_list q _, ?_, fine, hR⟩
    exact ⟨_, Heap.get?_push_size _ rfl, rfl, rfl⟩
  · obtain ⟨its, _, pt, _⟩ := I1.tuple hq
    refine wpAny_pyIter_tuple (show s1.heap.IsTuple q its.toArray from pt) ⟨s1.heap.objs.size, [s1.heap.objs.size], _, _, H1, rfl, kept _, turn_tuple q _, ?_, fine, hR⟩
    exact ⟨_, Heap.get?_push_size _ rfl, rfl, rfl⟩
theorem i_seq (hK : X.K = Y.K) (ha : PE X a (rdX Y W U a')) : PI X tg a (rdI Y W U .seq (.cons a' .nil)) := by
  refine (pi_any ha).imp fun σ H RR ⟨G, R, en, S, p⟩ => ⟨G, R, en, S, ?_⟩
  rw [evI1] at p
  refine Pst.bind p fun x en1 v H1 G1 _ s1 k1 S1 o1 p1 => ?_
  unfold itFin at p1
  split at p1
  · exact p1.elim
  · rename_i ds e
    have rl : RepL Y G1 [v] ds := repL_of (en := en1) (σ := σ) (as := [x]) ⟨o1, trivial⟩ e
    split at p1
    · rename_i items e2
      cases rl with | cons r1 r2 =>
        cases r2
        have fin : ∀ J, Gives Y J items G1 → RR J H1 := fun J g => p1 J H1 G1 (Same.refl _) (Keep.refl _ _) S1 g
        rename_i d
        have e2 : seqD d = some items := e2
        cases d with
        | tup ds =>
          cases e2
          cases r1 with | tup h1 h2 =>
            refine ⟨_, rfl, .inr ⟨_, by rw [hK]; exact Same.seqT S1.gH h1, ?_⟩⟩
            rw [hK]; exact fin _ (gives_tup h1 h2)
        | lst ds =>
          cases e2
          cases r1 with | lst h1 h2 =>
            refine ⟨_, rfl, .inl ⟨_, .inl (.inl (S1.gH _ _ h1)), ?_⟩⟩
            rw [hK]; exact fin _ (gives_list (.inl (.inl h1)) h2)
        | fls ds =>
          cases e2
          cases r1 with | fls h1 h2 =>
            refine ⟨_, rfl, .inl ⟨_, by rw [hK]; exact S1.gH.seq h1, ?_⟩⟩
            rw [hK]; exact fin _ (gives_list h1 h2)
        | _ => cases e2
    · exact p1.elim
theorem inB_ok {i : Int} (h : inB i = true) : -(2 ^ 62) ≤ i ∧ i < 2 ^ 62 := of_decide_eq_true h

theorem i_rng1 (hm : X.mg "range" = none) (ha : PA X [a] (rdA Y W U as')) (hg : Gl X "range" := by rfl) (hs : starEach [a] X.env = [(false, eval a X.env)] := by rfl) : PI X tg (.Call (.Name "range" p) [a] [] pos) (rdI Y W U .rng1 as') := by
  refine (pi_range1 hg hm ha hs).imp fun σ H RR ⟨G, R, en, S, p⟩ => ⟨G, R, en, S, itFin_bind p fun G1 H1 en1 vs ds items s S1 r e f => ?_⟩
  have e : kRng1 ds = some items := e
  unfold kRng1 at e
  split at e
  · split at e
    · rename_i j _ hj
      cases e
      obtain ⟨v, rfl, r1⟩ := repL1 r
      cases r1
      exact ⟨j, rfl, (inB_ok hj).1, (inB_ok hj).2, f _ gives_rng⟩
    · cases e
  · cases e
theorem i_rng2 (hm : X.mg "range" = none) (ha : PA X [a, b] (rdA Y W U as')) (hg : Gl X "range" := by rfl) (hs : starEach [a, b] X.env = [(false, eval a X.env), (false, eval b X.env)] := by rfl) (hs2 : starEach [b] X.env = [(false, eval b X.env)] := by rfl) :
    PI X tg (.Call (.Name "range" p) [a, b] [] pos) (rdI Y W U .rng2 as') := by
  refine (pi_range2 hg hm ha hs hs2).imp fun σ H RR ⟨G, R, en, S, p⟩ => ⟨G, R, en, S, itFin_bind p fun G1 H1 en1 vs ds items s S1 r e f => ?_⟩
  have e : kRng2 ds = some items := e
  unfold kRng2 at e
  split at e
  · split at e
    · rename_i i j _ hj
      cases e
      obtain ⟨h1, h2⟩ := Bool.and_eq_true_iff.mp hj
      obtain ⟨v, u, rfl, r1, r2⟩ := repL2 r
      cases r1; cases r2
      exact ⟨i, j, rfl, ⟨(inB_ok h1).1, (inB_ok h1).2, (inB_ok h2).1, (inB_ok h2).2⟩, f _ gives_rng⟩
    · cases e
  · cases e
theorem i_rng3 (hm : X.mg "range" = none) (ha : PA X [a, b, c] (rdA Y W U as')) (hg : Gl X "range" := by rfl) (hs : starEach [a, b, c] X.env = (false, eval a X.env) :: starEach [b, c] X.env := by rfl) (hpl : (backTo pos (starEach [b, c] X.env)).any (·.1) = false := by rfl) :
    PI X tg (.Call (.Name "range" p) [a, b, c] [] pos) (rdI Y W U .rng3 as') := by
  refine (pi_range3 hg hm ha hs hpl).imp fun σ H RR ⟨G, R, en, S, p⟩ => ⟨G, R, en, S, itFin_bind p fun G1 H1 en1 vs ds items s S1 r e f => ?_⟩
  have e : kRng3 ds = some items := e
  unfold kRng3 at e
  split at e
  · split at e
    · rename_i i j c _ hj
      cases e
      unfold rgOk at hj
      obtain ⟨h1, h2⟩ := Bool.and_eq_true_iff.mp hj
      obtain ⟨h3, h4⟩ := Bool.and_eq_true_iff.mp h1
      obtain ⟨v, u, w, rfl, r1, r2, r3⟩ := repL3 r
      cases r1; cases r2; cases r3
      have h5 := of_decide_eq_true h2
      exact ⟨i, j, c, _, rfl, ⟨(of_decide_eq_true h3).1, (of_decide_eq_true h3).2, h4, by omega⟩, f _ gives_rngC⟩
    · cases e
  · cases e
theorem i_zip {elts : List Expr} {kk : Nat} {tpos : Pos} (hK : X.K = Y.K) (hm : X.mg "zip" = none) (ha : PA X [a, b] (rdA Y W U as')) (hg : Gl X "zip" := by rfl) (hs : starEach [a, b] X.env = (false, eval a X.env) :: starEach [b] X.env := by rfl) (hpl : (backTo pos (starEach [b] X.env)).any (·.1) = false := by rfl) :
    PI X (.Tuple elts kk tpos) (.Call (.Name "zip" p) [a, b] [] pos) (rdI Y W U .zip as') := by
  refine (RZ.pi_zipA hg hm ha hs hpl).imp fun σ H RR ⟨G, R, en, S, p⟩ => ⟨G, R, en, S, itFin_bind p fun G1 H1 en1 vs ds items s S1 r e f => ?_⟩
  have e : kZip ds = some items := e
  unfold kZip at e
  split at e
  · cases e
    obtain ⟨v, u, rfl, r1, r2⟩ := repL2 r
    cases r1 with | lst h1 h2 =>
      cases r2 with | lst h3 h4 =>
        exact ⟨_, _, _, _, rfl, .inl ⟨.inl (.inl (S1.gH _ _ h1)), .inl (.inl (S1.gH _ _ h3)), by rw [hK]; exact f _ (gives_zip (.inl (.inl h1)) (.inl (.inl h3)) h2 h4)⟩⟩
  · cases e
    obtain ⟨v, u, rfl, r1, r2⟩ := repL2 r
    cases r1 with | tup h1 h2 =>
      cases r2 with | tup h3 h4 =>
        exact ⟨_, _, _, _, rfl, .inr ⟨by rw [hK]; exact Same.seqT S1.gH h1, by rw [hK]; exact Same.seqT S1.gH h3, by rw [hK]; exact f _ (gives_zipT h1 h3 h2 h4)⟩⟩
  · cases e

/-! ### [e for x in .. if ..] -/
/-- targets of a for: stored -/
def rdG (Y : Wd) (tg : Tg) : TG := fun v σ H Q => ∃ G R en d own, Sep Y G R H σ en ∧ Vok Y G R H σ en v d own ∧ match stTg tg d own en with
  | some en' => ∀ σ', Keep σ en σ' en' → Sep Y G R H σ' en' → (∀ j : Nat, j ∉ tg.slots → σ'[j]? = σ[j]?) → Q σ' H
  | none => False
end
section
variable {X : Cx} {Y : Wd} {W : WX} {U : Ev}
theorem stVar_ok {i : Nat} {d : D} {own : Bool} {en en' : En} (e : stVar i d own en = some en') : i < en.length ∧ isBC en[i]? = false ∧ en' = en.set i (some (if own then .own else .sh, d)) := by
  unfold stVar at e
  split at e
  · cases e
  · cases e
  · cases e
  · rename_i c h1 h2 h3
    cases hc : en[i]? with
    | none => exact absurd hc h1
    | some c =>
      cases e
      refine ⟨lt_of_get hc, ?_, rfl⟩
      cases c with
      | none => rfl
      | some q =>
        obtain ⟨ow, d'⟩ := q
        cases ow with
        | sh => rfl
        | own => rfl
        | brw => exact absurd hc (h2 d')
        | brs => exact absurd hc (h3 d')
theorem Keep.st {i : Nat} {d : D} {own : Bool} {σ : L2.St} {en en' : En} {v : Option V} (e : stVar i d own en = some en') : Keep σ en (σ.set i v) en' := by
  obtain ⟨_, h2, rfl⟩ := stVar_ok e
  exact Keep.store h2 (by cases own <;> rfl)
theorem Sep.st {i : Nat} {d : D} {own : Bool} {G R H : Hp} {σ : L2.St} {en en' : En} {v : V} (S : Sep Y G R H σ en) (e : stVar i d own en = some en') (q : Vok Y G R H σ en v d own) : Sep Y G R H (σ.set i (some v)) en' := by
  obtain ⟨h1, _, rfl⟩ := stVar_ok e
  exact S.store h1 q
/-- names stored one after another: shared values -/
def setAll (σ : L2.St) : List Nat → List V → L2.St
  | i :: is, v :: vs => setAll (σ.set i (some v)) is vs
  | _, _ => σ
theorem setAll_off : ∀ {is : List Nat} {vs : List V} {σ : L2.St} {j : Nat}, j ∉ is → (setAll σ is vs)[j]? = σ[j]?
  | [], _, _, _, _ => rfl
  | _ :: _, [], _, _, _ => rfl
  | i :: is, v :: vs, σ, j, h => by
    have h1 : i ≠ j := fun z => h (z ▸ List.mem_cons_self)
    have h2 : j ∉ is := fun z => h (List.mem_cons_of_mem _ z)
    show (setAll (σ.set i (some v)) is vs)[j]? = _
    rw [setAll_off h2, List.getElem?_set_ne h1]
theorem stVars_ok : ∀ {is : List Nat} {ds : List D} {vs : List V} {G R H : Hp} {σ : L2.St} {en en' : En}, Sep Y G R H σ en → RepL Y G vs ds → stVars is ds en = some en' → Keep σ en (setAll σ is vs) en' ∧ Sep Y G R H (setAll σ is vs) en' ∧ is.length = vs.length
  | [], [], vs, G, R, H, σ, en, en', S, r, e => by
    cases r
    cases e
    exact ⟨Keep.refl _ _, S, rfl⟩
  | i :: is, d :: ds, vs, G, R, H, σ, en, en', S, r, e => by
    cases r with | cons r1 r2 =>
      simp only [stVars] at e
      cases q : stVar i d false en with
      | some en1 =>
        rw [q] at e
        have S1 := S.st q (show Vok Y G R H σ en _ d false from r1)
        obtain ⟨k, S2, l⟩ := stVars_ok S1 r2 e
        exact ⟨(Keep.st q).trans k, S2, by simp [l]⟩
      | none => rw [q] at e; cases e
  | [], _ :: _, _, _, _, _, _, _, _, _, _, e => by cases e
  | _ :: _, [], _, _, _, _, _, _, _, _, _, e => by cases e
/-- the slots of names -/
structure NmI (X : Cx) (i : Nat) (x : Str) : Prop where
  ix : X.N[i]? = some x
  loc : Loc X.env.scope x
  fn : X.fn x = true ∨ X.env.scope.names.lookup x = some .local
inductive NmL (X : Cx) : List Nat → List Expr → Prop
  | nil : NmL X [] []
  | cons {i : Nat} {is : List Nat} {x : Str} {es : List Expr} {pos : Pos} : NmI X i x → NmL X is es → NmL X (i :: is) (.Name x pos :: es)
def gSet : List Nat → TGs
  | [] => gNil
  | i :: is => gCons (gName i) (gSet is)
theorem pgs_names (nd : X.N.Nodup) : ∀ {is : List Nat} {es : List Expr}, NmL X is es → PGs X es (gSet is)
  | _, _, .nil => pgs_nil
  | _, _, .cons h t => pgs_cons (pg_name nd h.ix h.loc h.fn) (pgs_names nd t)
theorem gSet_ok : ∀ {is : List Nat} {vs : List V} {σ : L2.St} {H : Hp} {Q : L2.St → Hp → Prop}, is.length = vs.length → Q (setAll σ is vs) H → gSet is vs σ H Q
  | [], [], _, _, _, _, q => ⟨rfl, q⟩
  | _ :: _, _ :: _, _, _, _, l, q => ⟨_, _, rfl, gSet_ok (by simpa using l) q⟩
  | [], _ :: _, _, _, _, l, _ => by simp at l
  | _ :: _, [], _, _, _, l, _ => by simp at l
theorem _root_.L2.PG.imp {tg : Expr} {t t' : TG} (h : PG X tg t) (k : ∀ v σ H Q, t' v σ H Q → t v σ H Q) : PG X tg t' := ⟨fun p s σ H v u Q I r q => h.run p s σ H v u Q I r (k _ _ _ _ q)⟩
theorem g_nm {i : Nat} {x : Str} {pos : Pos} (nd : X.N.Nodup) (h : NmI X i x) : PG X (.Name x pos) (rdG Y (.nm i)) := by
  refine (pg_name nd h.ix h.loc h.fn).imp fun v σ H Q ⟨G, R, en, d, own, S, q, m⟩ => ?_
  show Q (σ.set i (some v)) H
  cases e : stTg (.nm i) d own en with
  | some en' =>
    rw [e] at m
    exact m _ (Keep.st e) (S.st e q) fun j hj => List.getElem?_set_ne fun z => hj (by subst z; exact List.mem_singleton.mpr rfl)
  | none => rw [e] at m; exact m.elim
theorem g_tp {is : List Nat} {es : List Expr} {k : Nat} {pos : Pos} (hc : X.calm = true) (hK : X.K = Y.K) (nd : X.N.Nodup) (h : NmL X is es) (hn : (assignEach es X.env).length = is.length := by rfl) (hst : (assignEach es X.env).findIdx? (·.1) = none := by rfl) : PG X (.Tuple es k pos) (rdG Y (.tp is)) := by
  refine (pg_tup hc (pgs_names nd h) hn hst).imp fun v σ H Q ⟨G, R, en, d, own, S, q, m⟩ => ?_
  cases e : stTg (.tp is) d own en with
  | some en' =>
    rw [e] at m
    unfold stTg at e
    split at e
    · rename_i h1; cases h1
    · rename_i h1; cases h1
      have q : Rep Y G v _ := q
      cases q with | tup h1 h2 =>
        obtain ⟨k, S2, l⟩ := stVars_ok S h2 e
        exact ⟨_, _, rfl, by rw [hK]; exact Same.seqT S.gH h1, l.symm, gSet_ok l (m _ k S2 fun j hj => setAll_off hj)⟩
    · rename_i h1; cases h1
    · cases e
  | none => rw [e] at m; exact m.elim
theorem g_tpt {i : Nat} {x : Str} {is : List Nat} {es : List Expr} {k k2 : Nat} {pos pos1 pos2 : Pos} (hc : X.calm = true) (hK : X.K = Y.K) (nd : X.N.Nodup) (h0 : NmI X i x) (h : NmL X is es) (hn : (assignEach es X.env).length = is.length := by rfl) (hst : (assignEach es X.env).findIdx? (·.1) = none := by rfl)
    (hn2 : (assignEach [.Name x pos1, .Tuple es k2 pos2] X.env).length = 2 := by rfl) (hst2 : (assignEach [.Name x pos1, .Tuple es k2 pos2] X.env).findIdx? (·.1) = none := by rfl) : PG X (.Tuple [.Name x pos1, .Tuple es k2 pos2] k pos) (rdG Y (.tpt i is)) := by
  refine (pg_tup hc (pgs_cons (pg_name nd h0.ix h0.loc h0.fn) (pgs_cons (pg_tup hc (pgs_names nd h) hn hst) pgs_nil)) hn2 hst2).imp fun v σ H Q ⟨G, R, en, d, own, S, q, m⟩ => ?_
  cases e : stTg (.tpt i is) d own en with
  | some en' =>
    rw [e] at m
    unfold stTg at e
    split at e
    · rename_i h1; cases h1
    · rename_i h1; cases h1
    · rename_i h1; cases h1
      have q : Rep Y G v _ := q
      cases q with | tup h1 h2 =>
        obtain ⟨v1, v2, rfl, r1, r2⟩ := repL2 h2
        split at e
        · rename_i en1 e1
          have S1 := S.st e1 (show Vok Y G R H σ _ _ _ false from r1)
          cases r2 with | tup h3 h4 =>
            obtain ⟨k, S2, l⟩ := stVars_ok S1 h4 e
            refine ⟨_, _, rfl, by rw [hK]; exact Same.seqT S.gH h1, rfl, v1, _, rfl, ?_⟩
            refine ⟨_, _, rfl, ⟨_, _, rfl, by rw [hK]; exact Same.seqT S1.gH h3, l.symm, gSet_ok l ⟨rfl, ?_⟩⟩⟩
            refine m _ ((Keep.st e1).trans k) S2 fun j hj => ?_
            rw [setAll_off (fun z => hj (List.mem_cons_of_mem _ z)), List.getElem?_set_ne fun z => hj (by subst z; exact List.mem_cons_self)]
        · cases e
    · cases e
  | none => rw [e] at m; exact m.elim
end
end L3

/-! L3G: list comprehensions. -/
namespace L3
open PySem PySem.Spec PyProof.Rows L2
section
variable {X : Cx} {Y : Wd} {W : WX} {U : Ev}
abbrev W0 : WX := fun _ _ _ _ => False
theorem noEr_bind {α β γ δ : Type} {ok1 : Hp → Hp → Hp → L2.St → En → α → β → Prop} {ok2 : Hp → Hp → Hp → L2.St → En → γ → δ → Prop} {G R : Hp} {σ : L2.St} {en : En} {r : Rs α} {f : α → En → Rs γ} {Q : δ → Hp → Prop} {Q1 : β → Hp → Prop}
    (h : Pst Y W ok2 G R σ en ((noEr r).bind f) Q) (k : ∀ a en' b H' G', r = .ok a en' → Same G G' → Keep σ en σ en' → Sep Y G' R H' σ en' → ok1 G' R H' σ en' a b → Pst Y W ok2 G' R σ en' (f a en') Q → Q1 b H') : Pst Y W0 ok1 G R σ en r Q1 := by
  cases r with
  | ok a en' =>
    intro b H' G' s kp S o
    exact k a en' b H' G' rfl s kp S o (Pst.weak (r := f a en') h s kp)
  | er x en' => exact h.elim
  | bad => exact h.elim
theorem wipeE_len (en : En) : ∀ vs : List Nat, (wipeE en vs).length = en.length
  | [] => rfl
  | v :: vs => by unfold wipeE; rw [List.length_set, wipeE_len en vs]
theorem wipeE_off (en : En) : ∀ {vs : List Nat} {j : Nat}, j ∉ vs → (wipeE en vs)[j]? = en[j]?
  | [], _, _ => rfl
  | v :: vs, j, h => by
    unfold wipeE
    rw [List.getElem?_set_ne (fun z => h (by subst z; exact List.mem_cons_self)), wipeE_off en fun z => h (List.mem_cons_of_mem _ z)]
theorem wipeE_on (en : En) : ∀ {vs : List Nat} {j : Nat}, j ∈ vs → ∀ x, (wipeE en vs)[j]? ≠ some (some x)
  | v :: vs, j, h, x => by
    unfold wipeE
    by_cases hv : v = j
    · subst hv
      by_cases hl : v < (wipeE en vs).length
      · rw [List.getElem?_set_self hl]; intro z; cases z
      · rw [List.getElem?_eq_none (by rw [List.length_set]; omega)]; intro z; cases z
    · rw [List.getElem?_set_ne hv]
      rcases List.mem_cons.mp h with z | z
      · exact absurd z.symm hv
      · exact wipeE_on en z x
theorem wipe_off {σ : L2.St} : ∀ {vs : List Nat} {j : Nat}, j ∉ vs → (wipe σ vs)[j]? = σ[j]?
  | [], _, _ => rfl
  | v :: vs, j, h => by
    unfold wipe
    rw [List.getElem?_set_ne (fun z => h (by subst z; exact List.mem_cons_self)), wipe_off fun z => h (List.mem_cons_of_mem _ z)]
theorem wipe_on {σ : L2.St} : ∀ {vs : List Nat} {j : Nat}, j ∈ vs → j < σ.length → (wipe σ vs)[j]? = some none
  | v :: vs, j, h, hl => by
    unfold wipe
    by_cases hv : v = j
    · subst hv
      rw [List.getElem?_set_self (by rw [wipe_length]; exact hl)]
    · rw [List.getElem?_set_ne hv]
      rcases List.mem_cons.mp h with z | z
      · exact absurd z.symm hv
      · exact wipe_on z hl
theorem wipe_eq {σ σ' : L2.St} {vs : List Nat} (l : σ'.length = σ.length) (h : ∀ j : Nat, j ∉ vs → σ'[j]? = σ[j]?) : wipe σ' vs = wipe σ vs := by
  apply List.ext_getElem?
  intro j
  by_cases hj : j ∈ vs
  · by_cases hl : j < σ.length
    · rw [wipe_on hj hl, wipe_on hj (by rw [l]; exact hl)]
    · rw [List.getElem?_eq_none (by rw [wipe_length]; omega), List.getElem?_eq_none (by rw [wipe_length]; omega)]
  · rw [wipe_off hj, wipe_off hj, h j hj]
/-- another list of values that agrees where the evaluator looks -/
theorem Sep.agree {G R H : Hp} {σ σ' : L2.St} {en en' : En} (S : Sep Y G R H σ en) (l : σ'.length = en'.length) (h : ∀ (i : Nat) x, en'[i]? = some (some x) → en[i]? = some (some x) ∧ σ'[i]? = σ[i]?) : Sep Y G R H σ' en' := by
  refine ⟨S.gH, S.rH, S.gr, l, fun i ow d e k => ?_, fun i ow d e k => ?_, fun i j a e1 e2 q1 q2 => ?_, S.tb⟩
  · obtain ⟨h1, h2⟩ := h i _ e
    rw [h2]; exact S.sh i ow d h1 k
  · obtain ⟨h1, h2⟩ := h i _ e
    rw [h2]; exact S.own i ow d h1 k
  · obtain ⟨ow, d, f1, f2⟩ := isOwnC_get e1
    obtain ⟨ow', d', f3, f4⟩ := isOwnC_get e2
    obtain ⟨h1, h2⟩ := h i _ f1
    obtain ⟨h3, h4⟩ := h j _ f3
    rw [h2] at q1; rw [h4] at q2
    exact S.apart i j a (by rw [h1]; exact f2) (by rw [h3]; exact f4) q1 q2
theorem Sep.wipe {G R H : Hp} {σ σ' : L2.St} {en : En} {vs : List Nat} (S : Sep Y G R H σ en) (l : σ'.length = σ.length) (h : ∀ j : Nat, j ∉ vs → σ'[j]? = σ[j]?) : Sep Y G R H (wipe σ' vs) (wipeE en vs) :=
  S.agree (by rw [wipe_length, wipeE_len, l, S.len]) fun i x e => by
    by_cases hi : i ∈ vs
    · exact absurd e (wipeE_on en hi x)
    · rw [wipeE_off en hi] at e
      exact ⟨e, by rw [wipe_off hi, h i hi]⟩
theorem restE_len (en0 en : En) : ∀ vs : List Nat, (restE en0 en vs).length = en.length
  | [] => rfl
  | v :: vs => by unfold restE; rw [List.length_set, restE_len en0 en vs]
theorem restE_off (en0 en : En) : ∀ {vs : List Nat} {j : Nat}, j ∉ vs → (restE en0 en vs)[j]? = en[j]?
  | [], _, _ => rfl
  | v :: vs, j, h => by
    unfold restE
    rw [List.getElem?_set_ne (fun z => h (by subst z; exact List.mem_cons_self)), restE_off en0 en fun z => h (List.mem_cons_of_mem _ z)]
theorem restE_on (en0 en : En) (hl : en.length = en0.length) : ∀ {vs : List Nat} {j : Nat}, j ∈ vs → (restE en0 en vs)[j]? = en0[j]?
  | v :: vs, j, h => by
    unfold restE
    by_cases hv : v = j
    · subst hv
      by_cases hb : v < en.length
      · rw [List.getElem?_set_self (by rw [restE_len]; exact hb), List.getElem?_eq_getElem (by rw [← hl]; exact hb)]; rfl
      · rw [List.getElem?_eq_none (by rw [List.length_set, restE_len]; omega), List.getElem?_eq_none (by omega)]
    · rw [List.getElem?_set_ne hv]
      rcases List.mem_cons.mp h with z | z
      · exact absurd z.symm hv
      · exact restE_on en0 en hl z
theorem shE_cases {en : En} {v : Nat} (h : shE en v = true) : en[v]? = some none ∨ ∃ d, en[v]? = some (some (.sh, d)) := by
  unfold shE at h
  split at h
  · rename_i e; exact .inl e
  · rename_i d e; exact .inr ⟨d, e⟩
  · cases h
/-- behind the block the slots are as they were -/
theorem Sep.rest {G0 G R H : Hp} {σ : L2.St} {en0 en : En} {vs : List Nat} (S0 : ∃ H0, Sep Y G0 R H0 σ en0) (s : Same G0 G) (S : Sep Y G R H (L2.wipe σ vs) (wipeE en vs)) (hl : en.length = en0.length) (hs : ∀ v ∈ vs, shE en0 v = true) : Sep Y G R H σ (restE en0 (wipeE en vs) vs) := by
  obtain ⟨H0, S0⟩ := S0
  have ll : (wipeE en vs).length = en0.length := by rw [wipeE_len]; exact hl
  have on : ∀ {i : Nat} {x : Ow × D}, i ∈ vs → (restE en0 (wipeE en vs) vs)[i]? = some (some x) → ∃ d, x = (.sh, d) ∧ ∃ v, σ[i]? = some (some v) ∧ Rep Y G v d := fun {i x} hi e => by
    rw [restE_on en0 _ ll hi] at e
    rcases shE_cases (hs i hi) with q | ⟨d, q⟩
    · rw [q] at e; cases e
    · rw [q] at e; cases e
      obtain ⟨v, h1, h2⟩ := S0.sh i .sh d q rfl
      exact ⟨d, rfl, v, h1, h2.mono s⟩
  have off : ∀ {i : Nat}, i ∉ vs → (restE en0 (wipeE en vs) vs)[i]? = (wipeE en vs)[i]? := fun hi => restE_off en0 _ hi
  have notOn : ∀ {i : Nat}, isOwnC (restE en0 (wipeE en vs) vs)[i]? = true → i ∉ vs := fun {i} h hi => by
    obtain ⟨ow, d, e, k⟩ := isOwnC_get h
    obtain ⟨d', e', _⟩ := on hi e
    cases e'; cases k
  refine ⟨S.gH, S.rH, S.gr, by rw [restE_len, wipeE_len, hl]; exact S0.len, fun i ow d e k => ?_, fun i ow d e k => ?_, fun i j a e1 e2 q1 q2 => ?_, S.tb⟩
  · by_cases hi : i ∈ vs
    · obtain ⟨d', e', v, h1, h2⟩ := on hi e
      cases e'
      exact ⟨v, h1, h2⟩
    · rw [off hi] at e
      obtain ⟨v, h1, h2⟩ := S.sh i ow d e k
      rw [wipe_off hi] at h1
      exact ⟨v, h1, h2⟩
  · have hi := notOn (i := i) (by rw [e]; exact k)
    rw [off hi] at e
    obtain ⟨a, h1, h2⟩ := S.own i ow d e k
    rw [wipe_off hi] at h1
    exact ⟨a, h1, h2⟩
  · have h1 := notOn e1
    have h2 := notOn e2
    rw [off h1] at e1; rw [off h2] at e2
    exact S.apart i j a e1 e2 (by rw [wipe_off h1]; exact q1) (by rw [wipe_off h2]; exact q2)
theorem Keep.rest {σ : L2.St} {en0 en : En} {vs : List Nat} (k : Keep (L2.wipe σ vs) (wipeE en0 vs) (L2.wipe σ vs) (wipeE en vs)) (hl : en.length = en0.length) (hs : ∀ v ∈ vs, shE en0 v = true) : Keep σ en0 σ (restE en0 (wipeE en vs) vs) := fun i => by
  refine ⟨?_, fun _ => rfl⟩
  by_cases hi : i ∈ vs
  · rw [restE_on en0 _ (by rw [wipeE_len]; exact hl) hi]
  · rw [restE_off en0 _ hi]
    have := (k i).1
    rw [wipeE_off en0 hi] at this
    exact this
theorem stVar_len {i : Nat} {d : D} {own : Bool} {en en' : En} (e : stVar i d own en = some en') : en'.length = en.length := by
  obtain ⟨_, _, rfl⟩ := stVar_ok e
  rw [List.length_set]
theorem stVars_len : ∀ {is : List Nat} {ds : List D} {en en' : En}, stVars is ds en = some en' → en'.length = en.length
  | [], [], en, en', e => by cases e; rfl
  | i :: is, d :: ds, en, en', e => by
    simp only [stVars] at e
    split at e
    · rename_i en1 q
      rw [stVars_len e, stVar_len q]
    · cases e
  | [], _ :: _, _, _, e => by cases e
  | _ :: _, [], _, _, e => by cases e
theorem stTg_len {tg : Tg} {d : D} {own : Bool} {en en' : En} (e : stTg tg d own en = some en') : en'.length = en.length := by
  unfold stTg at e
  split at e
  · exact stVar_len e
  · exact stVars_len e
  · split at e
    · rename_i q
      rw [stVars_len e, stVar_len q]
    · cases e
  · cases e
/-- what is left of a comprehension's loop at the i-th item -/
def LcI (Y : Wd) (W : WX) (U : Ev) (G1 R : Hp) (σ : L2.St) (en1 : En) (vs : List Nat) (tg : Tg) (c' e' : E) (items : List D) (Q : VK) (D1 : Addr) (i : Nat) (H : Hp) : Prop :=
  i ≤ items.length ∧ ∃ (G2 : Hp) (en2 : En) (accD : List D) (accV : List V), Same G1 G2 ∧ en2.length = en1.length ∧ Keep (L2.wipe σ vs) (wipeE en1 vs) (L2.wipe σ vs) (wipeE en2 vs) ∧
    Sep Y G2 (upd R D1 (.lst accV)) H (L2.wipe σ vs) (wipeE en2 vs) ∧ RepL Y G2 accV accD ∧
    Pst Y W (okV Y) G1 R σ en1 ((loopC vs tg (fun en => toB (evE U.C U.md c' en)) (fun en => evE U.C U.md e' en) (items.drop i) accD (wipeE en2 vs)).bind fun xs en' => .ok (.lst xs, true) (restE en1 en' vs)) Q
/-- .. behind the test -/
theorem lc_behind {G1 R : Hp} {σ σ3 : L2.St} {en1 en3 en4 : En} {vs : List Nat} {tg : Tg} {c' e' : E} {items : List D} {Q : VK} {D1 : Addr} {i : Nat} {H4 G2 G4 : Hp} {accD : List D} {accV : List V} {en2 : En} {b : Bool}
    (hlt : i < items.length) (s4 : Same G1 G4) (l3 : σ3.length = σ.length) (off4 : ∀ j : Nat, j ∉ vs → σ3[j]? = σ[j]?) (l4 : en4.length = en1.length) (k4 : Keep (L2.wipe σ vs) (wipeE en1 vs) σ3 en4) (hB : ∀ j ∈ vs, isBC en4[j]? = false) (S4 : Sep Y G4 (upd R D1 (.lst accV)) H4 σ3 en4) (ra : RepL Y G4 accV accD)
    (p : Pst Y W (okV Y) G1 R σ en1 ((if b = true then (noEr (evE U.C U.md e' en4)).bind fun p en => if decide (accD.length < sizeLine) = true then loopC vs tg (fun en => toB (evE U.C U.md c' en)) (fun en => evE U.C U.md e' en) (items.drop (i + 1)) (accD ++ [p.1]) (wipeE en vs) else .bad
      else loopC vs tg (fun en => toB (evE U.C U.md c' en)) (fun en => evE U.C U.md e' en) (items.drop (i + 1)) accD (wipeE en4 vs)).bind fun xs en' => .ok (.lst xs, true) (restE en1 en' vs)) Q) :
    if b = true then rdE Y W0 U e' σ3 H4 fun y H5 => ∃ acc, H5 D1 = some (.lst acc) ∧ acc.length < sizeLine ∧ LcI Y W U G1 R σ en1 vs tg c' e' items Q D1 (i + 1) (upd H5 D1 (.lst (acc ++ [y])))
    else LcI Y W U G1 R σ en1 vs tg c' e' items Q D1 (i + 1) H4 := by
  have weq : L2.wipe σ3 vs = L2.wipe σ vs := wipe_eq l3 off4
  have kw : ∀ {en5 : En}, en5.length = en1.length → Keep σ3 en4 σ3 en5 → Keep (L2.wipe σ vs) (wipeE en1 vs) (L2.wipe σ vs) (wipeE en5 vs) := fun {en5} l5 k5 j => by
    refine ⟨?_, fun _ => rfl⟩
    by_cases hj : j ∈ vs
    · have z : ∀ (en : En), isBC (wipeE en vs)[j]? = false := fun en => by
        cases q : (wipeE en vs)[j]? with
        | none => rfl
        | some c =>
          cases c with
          | none => rfl
          | some x => exact absurd q (wipeE_on en hj x)
      rw [z, z]
    · rw [wipeE_off en5 hj, (k5 j).1, (k4 j).1]
  cases b with
  | true =>
    rw [if_pos rfl] at p ⊢
    refine ⟨G4, _, en4, S4, ?_⟩
    cases q : evE U.C U.md e' en4 with
    | er x en => rw [q] at p; exact p.elim
    | bad => rw [q] at p; exact p.elim
    | ok pp en5 =>
      rw [q] at p
      intro v H5 G5 s5 k5 S5 o5
      have o5 : Vok Y G5 (upd R D1 (.lst accV)) H5 σ3 en5 v pp.1 pp.2 := o5
      obtain ⟨G6, s6, S6, r6⟩ := Vok.share S5 o5
      have hl : decide (accD.length < sizeLine) = true ∨ decide (accD.length < sizeLine) = false := by cases decide (accD.length < sizeLine) <;> simp
      rcases hl with hl | hl
      · have p : Pst Y W (okV Y) G1 R σ en1 ((if decide (accD.length < sizeLine) = true then loopC vs tg (fun en => toB (evE U.C U.md c' en)) (fun en => evE U.C U.md e' en) (items.drop (i + 1)) (accD ++ [pp.1]) (wipeE en5 vs) else .bad).bind fun xs en' => .ok (.lst xs, true) (restE en1 en' vs)) Q := p
        rw [if_pos hl] at p
        have hD : (upd R D1 (.lst accV)) D1 = some (.lst accV) := upd_same
        have lv : accV.length = accD.length := ra.length
        have l5 : en5.length = en1.length := by rw [← l4, ← S4.len, S5.len]
        refine ⟨accV, S5.rH _ _ hD, by rw [lv]; exact of_decide_eq_true hl, hlt, G6, en5, accD ++ [pp.1], accV ++ [v], (s4.trans s5).trans s6, l5, kw l5 k5, ?_, ((ra.mono s5).mono s6).append (.cons r6 .nil), p⟩
        have S7 := S6.wrR (o' := .lst (accV ++ [v])) hD rfl
        rw [upd_upd] at S7
        rw [← weq]
        exact S7.wipe rfl fun _ _ => rfl
      · have p : Pst Y W (okV Y) G1 R σ en1 ((if decide (accD.length < sizeLine) = true then loopC vs tg (fun en => toB (evE U.C U.md c' en)) (fun en => evE U.C U.md e' en) (items.drop (i + 1)) (accD ++ [pp.1]) (wipeE en5 vs) else .bad).bind fun xs en' => .ok (.lst xs, true) (restE en1 en' vs)) Q := p
        rw [if_neg (by rw [hl]; decide)] at p
        exact p.elim
  | false =>
    rw [if_neg (by decide)] at p ⊢
    refine ⟨hlt, G4, en4, accD, accV, s4, l4, kw l4 (Keep.refl _ _), ?_, ra, p⟩
    rw [← weq]
    exact S4.wipe rfl fun _ _ => rfl
theorem stVar_B {i : Nat} {d : D} {own : Bool} {en en' : En} (e : stVar i d own en = some en') {j : Nat} (h : isBC en[j]? = false) : isBC en'[j]? = false := by
  have := (Keep.st (σ := []) (v := none) e j).1
  rw [this]; exact h
/-- the reading of a comprehension: tt the tests', te the element's, both in the block -/
theorem lc_red {σ : L2.St} {H : Hp} {Q : VK} {vs : List Nat} {tg : Tg} {k : ItK} {as' : Es} {c' e' : E} {tt : TT} (ht : tt = rdT Y W0 U c' ∨ (tt = tYes ∧ c' = .cst (.bl true)))
    (h : rdE Y W U (.lc vs tg k as' c' e') σ H Q) : tLc (rdI Y W U k as') (rdG Y tg) tt (rdE Y W0 U e') vs σ H Q := by
  obtain ⟨G, R, en, S, p⟩ := h
  refine ⟨G, R, en, S, ?_⟩
  rw [evE] at p
  have p : Pst Y W (okV Y) G R σ en ((evI U.C U.md k as' en).bind fun items en => if (vs.all (shE en) && tg.slots.all vs.contains) = true then
      (loopC vs tg (fun en => toB (evE U.C U.md c' en)) (fun en => evE U.C U.md e' en) items [] (wipeE en vs)).bind fun xs en' => .ok (.lst xs, true) (restE en en' vs) else .bad) Q := by
    unfold evI; rw [Rs.bind_assoc]; exact p
  refine Pst.bind p fun items en1 J H1 G1 _ s1 k1 S1 gv p1 => ?_
  split at p1
  case isFalse => exact p1.elim
  case isTrue hcond =>
  obtain ⟨hc1, hc2⟩ := Bool.and_eq_true_iff.mp hcond
  have hs : ∀ v ∈ vs, shE en1 v = true := fun v hv => List.all_eq_true.mp hc1 v hv
  have hsl : ∀ j, j ∈ tg.slots → j ∈ vs := fun j hj => by simpa using List.all_eq_true.mp hc2 j hj
  intro D1 hD
  refine ⟨fun i m H => m = items.length - i ∧ LcI Y W U G1 R σ en1 vs tg c' e' items Q D1 i H, ⟨items.length, rfl, Nat.zero_le _, G1, en1, [], [], Same.refl _, rfl, Keep.refl _ _, ?_, .nil, p1⟩, ?_⟩
  · have S2 : Sep Y G1 R (upd H1 D1 (.lst [])) (L2.wipe σ vs) (wipeE en1 vs) := (S1.new hD).wipe rfl fun _ _ => rfl
    exact S2.reserve upd_same (S1.gnone hD) ((S1.wipe (vs := vs) rfl fun _ _ => rfl).freeNew hD)
  rintro i m H ⟨rfl, hi, G2, en2, accD, accV, s2, l2, k2, S2, ra, p2⟩
  obtain ⟨g1, g2⟩ := gv i G2 _ H _ _ s2 S2
  by_cases hlt : i < items.length
  · right
    have ei : items[i]? = some items[i] := List.getElem?_eq_getElem hlt
    obtain ⟨go, yl⟩ := g1 _ ei
    refine ⟨go, LcI Y W U G1 R σ en1 vs tg c' e' items Q D1 (i + 1), fun H' n => ⟨items.length - (i + 1), by omega, rfl, n⟩, fun x H' y => ?_⟩
    obtain ⟨G3, s3, S3, r3⟩ := yl x H' y
    rw [List.drop_eq_getElem_cons hlt] at p2
    simp only [loopC] at p2
    refine ⟨G3, _, wipeE en2 vs, items[i], false, S3, r3, ?_⟩
    cases est : stTg tg items[i] false (wipeE en2 vs) with
    | none => rw [est] at p2; exact p2.elim
    | some en3 =>
      rw [est] at p2
      intro σ3 k3 S4 off3
      have l3e : en3.length = en1.length := by rw [stTg_len est, wipeE_len, l2]
      have l3 : σ3.length = σ.length := by rw [S4.len, l3e, ← S1.len]
      have off4 : ∀ j : Nat, j ∉ vs → σ3[j]? = σ[j]? := fun j hj => by rw [off3 j (fun z => hj (hsl j z)), wipe_off hj]
      have weq : L2.wipe σ3 vs = L2.wipe σ vs := wipe_eq l3 off4
      have ww : L2.wipe (L2.wipe σ vs) vs = L2.wipe σ vs := wipe_eq (wipe_length _ _) (fun j hj => wipe_off hj)
      have k4 : Keep (L2.wipe σ vs) (wipeE en1 vs) σ3 en3 := k2.trans k3
      have wB : ∀ (en : En) (j : Nat), j ∈ vs → isBC (wipeE en vs)[j]? = false := fun en j hj => by
        cases q : (wipeE en vs)[j]? with
        | none => rfl
        | some c =>
          cases c with
          | none => rfl
          | some x => exact absurd q (wipeE_on en hj x)
      have hB : ∀ j ∈ vs, isBC en3[j]? = false := fun j hj => by rw [(k4 j).1, wB en1 j hj]
      refine ⟨weq, ?_⟩
      rcases ht with rfl | ⟨rfl, rfl⟩
      · refine ⟨G3, _, en3, S4, ?_⟩
        have p2 : Pst Y W (okV Y) G1 R σ en1 (((noEr (toB (evE U.C U.md c' en3))).bind fun kb en => if kb = true then (noEr (evE U.C U.md e' en)).bind fun p en => if decide (accD.length < sizeLine) = true then loopC vs tg (fun en => toB (evE U.C U.md c' en)) (fun en => evE U.C U.md e' en) (items.drop (i + 1)) (accD ++ [p.1]) (wipeE en vs) else .bad
            else loopC vs tg (fun en => toB (evE U.C U.md c' en)) (fun en => evE U.C U.md e' en) (items.drop (i + 1)) accD (wipeE en vs)).bind fun xs en' => .ok (.lst xs, true) (restE en1 en' vs)) Q := p2
        dsimp only
        cases q : toB (evE U.C U.md c' en3) with
        | er x en => rw [q] at p2; exact p2.elim
        | bad => rw [q] at p2; exact p2.elim
        | ok kb en4 =>
          rw [q] at p2
          intro kb' H4 G4 s4 k5 S5 o5
          cases (show kb' = kb from o5)
          exact lc_behind (G2 := G2) (en2 := en2) (en3 := en3) hlt ((s2.trans s3).trans s4) l3 off4 (by rw [← S5.len, S4.len, l3e]) (k4.trans k5) (fun j hj => by rw [(k5 j).1]; exact hB j hj) S5 ((ra.mono s3).mono s4) p2
      · exact lc_behind (b := true) (G2 := G2) (en2 := en2) (en3 := en3) hlt (s2.trans s3) l3 off4 l3e k4 hB S4 (ra.mono s3) p2
  · left
    have e : i = items.length := by omega
    subst e
    refine ⟨g2 rfl, ?_⟩
    rw [List.drop_length] at p2
    have p2 : Pst Y W (okV Y) G1 R σ en1 (.ok (.lst accD, true) (restE en1 (wipeE en2 vs) vs)) Q := p2
    have S3 := S2.lessR (R := R) (same_new (S1.rnone hD))
    have gD : G2 D1 = none := S2.gr D1 _ upd_same
    refine p2 (.ref D1) H G2 s2 (Keep.rest k2 l2 hs) (Sep.rest ⟨H1, S1⟩ s2 S3 l2 hs) ⟨D1, rfl, ⟨gD, S1.rnone hD, .lst (S2.rH _ _ upd_same) ra⟩, fun j hj z => ?_⟩
    obtain ⟨ow, d, e1, e2⟩ := isOwnC_get hj
    have hjv : j ∉ vs := fun hv => by
      rw [restE_on en1 _ (by rw [wipeE_len]; exact l2) hv] at e1
      rcases shE_cases (hs j hv) with q | ⟨d', q⟩
      · rw [q] at e1; cases e1
      · rw [q] at e1; cases e1; cases e2
    rw [restE_off en1 _ hjv] at e1
    obtain ⟨a, h1, h2⟩ := S2.own j ow d e1 e2
    rw [wipe_off hjv, z] at h1
    cases h1
    have := h2.r
    rw [upd_same] at this
    cases this
end
end L3

/-! L3H: comprehensions and calls as expressions. -/
namespace L3
open PySem PySem.Spec PyProof.Rows L2
section
variable {X : Cx} {Y : Wd} {W : WX} {U : Ev}
/-! ### comprehensions -/
theorem s_lc0 {elt tg iter : Expr} {scope : Scope} {own : List (Str × Nat)} {pos : Pos} {tm : Tg} {k : ItK} {as' : Es} {e' : E} (hc : X.calm = true) (nd : X.N.Nodup) (hi : PI X tg iter (rdI Y W U k as')) (ok : BlkOk X.N X.env.scope scope own)
    (hg : ∀ (s : Shared) (H : Hp) (C : Addr) (cl : List (Str × Addr)) (fp : List Addr), PG (X.blk s H scope (compEnvC scope cl C X.env) fp) tg (rdG Y tm))
    (he : ∀ (s : Shared) (H : Hp) (C : Addr) (cl : List (Str × Addr)) (fp : List Addr), PE (X.blk s H scope (compEnvC scope cl C X.env) fp) elt (rdE Y W0 U e')) (hs : ∀ x, foldedSetIterable iter X.env x = pure x := by intro _; rfl) :
    PE X (.ListComp elt [⟨tg, iter, [], 0⟩] scope pos) (rdE Y W U (.lc (own.map (·.2)) tm k as' (.cst (.bl true)) e')) :=
  (pe_lc (tt := tYes) hc nd hi ok hg (fun _ _ _ _ _ => pts_nil) he hs).imp fun _ _ _ q => lc_red (.inr ⟨rfl, rfl⟩) q
theorem s_lc1 {elt tg iter c : Expr} {scope : Scope} {own : List (Str × Nat)} {pos : Pos} {tm : Tg} {k : ItK} {as' : Es} {e' c' : E} (hc : X.calm = true) (nd : X.N.Nodup) (hi : PI X tg iter (rdI Y W U k as')) (ok : BlkOk X.N X.env.scope scope own)
    (hg : ∀ (s : Shared) (H : Hp) (C : Addr) (cl : List (Str × Addr)) (fp : List Addr), PG (X.blk s H scope (compEnvC scope cl C X.env) fp) tg (rdG Y tm))
    (ht : ∀ (s : Shared) (H : Hp) (C : Addr) (cl : List (Str × Addr)) (fp : List Addr), PT (X.blk s H scope (compEnvC scope cl C X.env) fp) c (rdT Y W0 U c'))
    (he : ∀ (s : Shared) (H : Hp) (C : Addr) (cl : List (Str × Addr)) (fp : List Addr), PE (X.blk s H scope (compEnvC scope cl C X.env) fp) elt (rdE Y W0 U e')) (hs : ∀ x, foldedSetIterable iter X.env x = pure x := by intro _; rfl) :
    PE X (.ListComp elt [⟨tg, iter, [c], 0⟩] scope pos) (rdE Y W U (.lc (own.map (·.2)) tm k as' c' e')) :=
  (pe_lc (tt := rdT Y W0 U c') hc nd hi ok hg (fun s H C cl fp => pts_one (ht s H C cl fp)) he hs).imp fun _ _ _ q => lc_red (.inl rfl) q

/-! ### a def's promise -/
def PstF (Y : Wd) (G R : Hp) (vs : List V) (r : CRes) (Q : VK) (E : XK) : Prop := match r with
  | .ok d own outs => ∀ v H' G', Same G G' → Sep Y G' R H' (vs.map some) outs → Vok Y G' R H' (vs.map some) outs v d own → Q v H'
  | .er x outs => ∀ cls dd H' G', Same G G' → Sep Y G' R H' (vs.map some) outs → ExOk Y G' x cls dd → E cls dd H'
  | .bad => False
/-- called with such arguments the def does what the evaluator says -/
def spF (Y : Wd) (f : List (Bool × D) → CRes) : Sp := fun vs H Q E => ∃ G R args, Sep Y G R H (vs.map some) (args.map cellOf) ∧ PstF Y G R vs (f args) Q E

/-! ### arguments lent -/
structure PassOk (Y : Wd) (G : Hp) (σ : L2.St) (en : En) (vs : List V) (avs : List Av) (args : List (Bool × D)) : Prop where
  la : avs.length = args.length
  lv : vs.length = args.length
  sh : ∀ (k : Nat) (d : D), args[k]? = some (false, d) → ∃ v, vs[k]? = some v ∧ Rep Y G v d
  ln : ∀ (k : Nat) (d : D), args[k]? = some (true, d) → ∃ i ow v, avs[k]? = some (.p i) ∧ en[i]? = some (some (ow, d)) ∧ ow.isOwn = true ∧ vs[k]? = some v ∧ σ[i]? = some (some v)
  nd : ∀ (k k' i : Nat) (d d' : D), args[k]? = some (true, d) → args[k']? = some (true, d') → avs[k]? = some (.p i) → avs[k']? = some (.p i) → k = k'
theorem pass_ok {G R H : Hp} {σ : L2.St} {en : En} (S : Sep Y G R H σ en) : ∀ {ms : List Bool} {avs : List Av} {us : List Nat} {vs : List V} {args : List (Bool × D)}, passA ms avs us en = some args → AokL Y G σ en vs avs →
    PassOk Y G σ en vs avs args ∧ ∀ (k i : Nat) (d : D), args[k]? = some (true, d) → avs[k]? = some (.p i) → i ∉ us
  | [], [], us, [], args, e, o => by
    cases e
    exact ⟨⟨rfl, rfl, fun k d h => by simp at h, fun k d h => by simp at h, fun k k' i d d' h => by simp at h⟩, fun k i d h => by simp at h⟩
  | m :: ms, .v d :: avs, us, v :: vs, args, e, o => by
    simp only [passA] at e
    split at e
    · rename_i r q
      cases e
      obtain ⟨P, N⟩ := pass_ok S q o.2
      refine ⟨⟨by simp [P.la], by simp [P.lv], fun k d' h => ?_, fun k d' h => ?_, fun k k' i d' d2 h1 h2 h3 h4 => ?_⟩, fun k i d' h1 h2 => ?_⟩
      · cases k with
        | zero => simp at h; subst h; exact ⟨v, rfl, o.1⟩
        | succ k => exact P.sh k d' (by simpa using h)
      · cases k with
        | zero => simp at h
        | succ k => exact P.ln k d' (by simpa using h)
      · cases k with
        | zero => simp at h1
        | succ k =>
          cases k' with
          | zero => simp at h2
          | succ k' => exact congrArg _ (P.nd k k' i d' d2 (by simpa using h1) (by simpa using h2) (by simpa using h3) (by simpa using h4))
      · cases k with
        | zero => simp at h1
        | succ k => exact N k i d' (by simpa using h1) (by simpa using h2)
    · cases e
  | m :: ms, .p i :: avs, us, v :: vs, args, e, o => by
    simp only [passA] at e
    split at e
    · rename_i ow d hi
      have o1 : σ[i]? = some (some v) := o.1
      split at e
      · rename_i hown
        split at e
        · rename_i hm
          obtain ⟨_, hm2⟩ := Bool.and_eq_true_iff.mp hm
          have hus : i ∉ us := by simpa using hm2
          split at e
          · rename_i r q
            cases e
            obtain ⟨P, N⟩ := pass_ok S q o.2
            refine ⟨⟨by simp [P.la], by simp [P.lv], fun k d' h => ?_, fun k d' h => ?_, fun k k' j d' d2 h1 h2 h3 h4 => ?_⟩, fun k j d' h1 h2 => ?_⟩
            · cases k with
              | zero => simp at h
              | succ k => exact P.sh k d' (by simpa using h)
            · cases k with
              | zero => simp at h; subst h; exact ⟨i, ow, v, rfl, hi, hown, rfl, o1⟩
              | succ k => exact P.ln k d' (by simpa using h)
            · cases k with
              | zero =>
                cases k' with
                | zero => rfl
                | succ k' =>
                  simp at h3; subst h3
                  exact absurd List.mem_cons_self (N k' i d2 (by simpa using h2) (by simpa using h4))
              | succ k =>
                cases k' with
                | zero =>
                  simp at h4; subst h4
                  exact absurd List.mem_cons_self (N k i d' (by simpa using h1) (by simpa using h3))
                | succ k' => exact congrArg _ (P.nd k k' j d' d2 (by simpa using h1) (by simpa using h2) (by simpa using h3) (by simpa using h4))
            · cases k with
              | zero => simp at h2; subst h2; exact hus
              | succ k => exact fun z => N k j d' (by simpa using h1) (by simpa using h2) (List.mem_cons_of_mem _ z)
          · cases e
        · cases e
      · rename_i hown
        have hown : ow.isOwn = false := by simpa using hown
        split at e
        · rename_i r q
          cases e
          obtain ⟨P, N⟩ := pass_ok S q o.2
          obtain ⟨v', e1, r1⟩ := S.sh i ow d hi hown
          rw [o1] at e1; cases e1
          refine ⟨⟨by simp [P.la], by simp [P.lv], fun k d' h => ?_, fun k d' h => ?_, fun k k' j d' d2 h1 h2 h3 h4 => ?_⟩, fun k j d' h1 h2 => ?_⟩
          · cases k with
            | zero => simp at h; subst h; exact ⟨v, rfl, r1⟩
            | succ k => exact P.sh k d' (by simpa using h)
          · cases k with
            | zero => simp at h
            | succ k => exact P.ln k d' (by simpa using h)
          · cases k with
            | zero => simp at h1
            | succ k =>
              cases k' with
              | zero => simp at h2
              | succ k' => exact congrArg _ (P.nd k k' j d' d2 (by simpa using h1) (by simpa using h2) (by simpa using h3) (by simpa using h4))
          · cases k with
            | zero => simp at h1
            | succ k => exact N k j d' (by simpa using h1) (by simpa using h2)
        · cases e
    · cases e
  | [], _ :: _, _, _, _, e, _ => by cases e
  | _ :: _, [], _, _, _, e, _ => by cases e
  | [], [], _, _ :: _, _, _, o => o.elim
  | _ :: _, _ :: _, _, [], _, _, o => o.elim
/-- slot i is lent -/
def Lent (avs : List Av) (args : List (Bool × D)) (i : Nat) : Prop := ∃ (k : Nat) (d : D), args[k]? = some (true, d) ∧ avs[k]? = some (.p i)
open Classical in
/-- what the callee must leave alone -/
noncomputable def restR (R H : Hp) (σ : L2.St) (en : En) (avs : List Av) (args : List (Bool × D)) : Hp := fun a =>
  if (R a).isSome = true then R a else if ∃ i : Nat, isOwnC en[i]? = true ∧ ¬ Lent avs args i ∧ σ[i]? = some (some (.ref a)) then H a else none
section
variable {G R H : Hp} {σ : L2.St} {en : En} {vs : List V} {avs : List Av} {args : List (Bool × D)}
theorem restR_R (a : Addr) (o : HO) (e : R a = some o) : restR R H σ en avs args a = some o := by
  unfold restR; rw [if_pos (by rw [e]; rfl)]; exact e
theorem restR_own {i : Nat} {a : Addr} (r : R a = none) (h : isOwnC en[i]? = true) (nl : ¬ Lent avs args i) (e : σ[i]? = some (some (.ref a))) : restR R H σ en avs args a = H a := by
  unfold restR; rw [if_neg (by rw [r]; decide), if_pos ⟨i, h, nl, e⟩]
theorem restR_some {a : Addr} {o : HO} (e : restR R H σ en avs args a = some o) : R a = some o ∨ (H a = some o ∧ ∃ i : Nat, isOwnC en[i]? = true ∧ ¬ Lent avs args i ∧ σ[i]? = some (some (.ref a))) := by
  unfold restR at e
  split at e
  · exact .inl e
  · split at e
    · rename_i h; exact .inr ⟨e, h⟩
    · cases e
/-- the callee's state -/
theorem pass_sep (S : Sep Y G R H σ en) (P : PassOk Y G σ en vs avs args) : Sep Y G (restR R H σ en avs args) H (vs.map some) (args.map cellOf) := by
  have cell : ∀ {k : Nat} {ow : Ow} {d : D}, (args.map cellOf)[k]? = some (some (ow, d)) → (args[k]? = some (true, d) ∧ ow = .brw) ∨ (args[k]? = some (false, d) ∧ ow = .sh) := fun {k ow d} e => by
    rw [List.getElem?_map] at e
    cases q : args[k]? with
    | none => rw [q] at e; cases e
    | some p =>
      obtain ⟨b, d'⟩ := p
      rw [q] at e
      cases b with
      | true => cases e; exact .inl ⟨rfl, rfl⟩
      | false => cases e; exact .inr ⟨rfl, rfl⟩
  have vget : ∀ {k : Nat} {v : V}, vs[k]? = some v → (vs.map some)[k]? = some (some v) := fun {k v} e => by rw [List.getElem?_map, e]; rfl
  refine ⟨S.gH, fun a o e => ?_, fun a o e => ?_, by simp [P.lv], fun k ow d e h => ?_, fun k ow d e h => ?_, fun k k' a e1 e2 q1 q2 => ?_, ⟨S.tb.t, S.tb.g, fun a ps z => ?_⟩⟩
  · rcases restR_some e with e | ⟨e, _⟩
    · exact S.rH a o e
    · exact e
  · rcases restR_some e with e | ⟨e, i, h1, _, h3⟩
    · exact S.gr a o e
    · obtain ⟨ow, d, f1, f2⟩ := isOwnC_get h1
      obtain ⟨a', f3, f4⟩ := S.own i ow d f1 f2
      rw [h3] at f3; cases f3
      exact f4.g
  · rcases cell e with ⟨q, rfl⟩ | ⟨q, rfl⟩
    · cases h
    · obtain ⟨v, h1, h2⟩ := P.sh k d q
      exact ⟨v, vget h1, h2⟩
  · rcases cell e with ⟨q, rfl⟩ | ⟨q, rfl⟩
    · obtain ⟨i, ow, v, h1, h2, h3, h4, h5⟩ := P.ln k d q
      obtain ⟨a, f3, f4⟩ := S.own i ow d h2 h3
      rw [h5] at f3; cases f3
      refine ⟨a, vget h4, f4.g, ?_, f4.t⟩
      cases z : restR R H σ en avs args a with
      | none => rfl
      | some o =>
        rcases restR_some z with z | ⟨_, j, g1, g2, g3⟩
        · rw [f4.r] at z; cases z
        · have : j = i := S.apart j i a g1 (by rw [h2]; exact h3) g3 h5
          subst this
          exact absurd ⟨k, d, q, h1⟩ g2
    · cases h
  · obtain ⟨ow, d, f1, f2⟩ := isOwnC_get e1
    obtain ⟨ow', d', f3, f4⟩ := isOwnC_get e2
    rcases cell f1 with ⟨g1, rfl⟩ | ⟨g1, rfl⟩
    · rcases cell f3 with ⟨g2, rfl⟩ | ⟨g2, rfl⟩
      · obtain ⟨i, ow, v, h1, h2, h3, h4, h5⟩ := P.ln k d g1
        obtain ⟨i', ow', v', h1', h2', h3', h4', h5'⟩ := P.ln k' d' g2
        rw [vget h4] at q1; cases q1
        rw [vget h4'] at q2; cases q2
        have : i = i' := S.apart i i' a (by rw [h2]; exact h3) (by rw [h2']; exact h3') h5 h5'
        subst this
        exact P.nd k k' i d d' g1 g2 h1 h1'
      · cases f4
    · cases f2
  · rcases restR_some z with z | ⟨e, i, h1, _, h3⟩
    · exact S.tb.r a ps z
    · obtain ⟨ow, d, f1, f2⟩ := isOwnC_get h1
      obtain ⟨a', f3, f4⟩ := S.own i ow d f1 f2
      rw [h3] at f3; cases f3
      obtain ⟨o, g1, g2⟩ := f4.t.at
      rw [g1] at e
      cases e
      cases g2
structure BackOk (en en2 : En) (avs : List Av) (args : List (Bool × D)) (outs : List Cell) : Prop where
  len : en2.length = en.length
  off : ∀ i : Nat, ¬ Lent avs args i → en2[i]? = en[i]?
  on : ∀ (k i : Nat) (d : D), args[k]? = some (true, d) → avs[k]? = some (.p i) → ∃ ow d0 ow' d' ow2, en[i]? = some (some (ow, d0)) ∧ outs[k]? = some (some (ow', d')) ∧ en2[i]? = some (some (ow2, d')) ∧
    ((ow' = .brw ∧ ow2 = ow) ∨ (ow' = .brs ∧ ow2 = if ow = .brw then .brs else .sh))
theorem back_ok : ∀ {avs : List Av} {args : List (Bool × D)} {outs : List Cell} {en en2 : En}, backA avs args outs en = some en2 →
    (∀ (k k' i : Nat) (d d' : D), args[k]? = some (true, d) → args[k']? = some (true, d') → avs[k]? = some (.p i) → avs[k']? = some (.p i) → k = k') → BackOk en en2 avs args outs
  | [], [], outs, en, en2, e, nd => by
    cases e
    exact ⟨rfl, fun _ _ => rfl, fun k i d h => by simp at h⟩
  | .p i :: avs, (true, d) :: args, o :: outs, en, en2, e, nd => by
    have nd' : ∀ (k k' i : Nat) (d d' : D), args[k]? = some (true, d) → args[k']? = some (true, d') → avs[k]? = some (.p i) → avs[k']? = some (.p i) → k = k' := fun k k' i d d' h1 h2 h3 h4 => by
      have := nd (k + 1) (k' + 1) i d d' (by simpa using h1) (by simpa using h2) (by simpa using h3) (by simpa using h4)
      omega
    have notIn : ¬ Lent avs args i := fun ⟨k, d', h1, h2⟩ => by
      have := nd 0 (k + 1) i d d' rfl (by simpa using h1) rfl (by simpa using h2)
      omega
    simp only [backA] at e
    split at e
    · rename_i ow d0 ow' d' hi
      have il := lt_of_get hi
      have main : ∀ (ow2 : Ow), backA avs args outs (en.set i (some (ow2, d'))) = some en2 → ((ow' = .brw ∧ ow2 = ow) ∨ (ow' = .brs ∧ ow2 = if ow = .brw then .brs else .sh)) → BackOk en en2 (.p i :: avs) ((true, d) :: args) (some (ow', d') :: outs) := fun ow2 e2 hw => by
        have B := back_ok e2 nd'
        refine ⟨by rw [B.len, List.length_set], fun j hj => ?_, fun k j d2 h1 h2 => ?_⟩
        · have h1 : ¬ Lent avs args j := fun ⟨k, d', h1, h2⟩ => hj ⟨k + 1, d', by simpa using h1, by simpa using h2⟩
          have h2 : i ≠ j := fun z => hj ⟨0, d, rfl, by rw [z]; rfl⟩
          rw [B.off j h1, get_set_ne h2]
        · cases k with
          | zero =>
            simp at h2; subst h2
            exact ⟨ow, d0, ow', d', ow2, hi, rfl, by rw [B.off i notIn, get_set_same il], hw⟩
          | succ k =>
            have h1' : args[k]? = some (true, d2) := by simpa using h1
            have h2' : avs[k]? = some (.p j) := by simpa using h2
            have hij : i ≠ j := fun z => notIn ⟨k, d2, h1', by rw [z]; exact h2'⟩
            obtain ⟨a1, a2, a3, a4, a5, b1, b2, b3, b4⟩ := B.on k j d2 h1' h2'
            rw [get_set_ne hij] at b1
            exact ⟨a1, a2, a3, a4, a5, b1, by simpa using b2, b3, b4⟩
      split at e
      · rename_i hw; exact main ow e (.inl ⟨hw, rfl⟩)
      · split at e
        · rename_i hw; exact main _ e (.inr ⟨hw, rfl⟩)
        · cases e
    · cases e
  | a :: avs, (false, d) :: args, o :: outs, en, en2, e, nd => by
    have e : backA avs args outs en = some en2 := by
      cases a <;> exact e
    have nd' : ∀ (k k' i : Nat) (d d' : D), args[k]? = some (true, d) → args[k']? = some (true, d') → avs[k]? = some (.p i) → avs[k']? = some (.p i) → k = k' := fun k k' i d d' h1 h2 h3 h4 => by
      have := nd (k + 1) (k' + 1) i d d' (by simpa using h1) (by simpa using h2) (by simpa using h3) (by simpa using h4)
      omega
    have B := back_ok e nd'
    refine ⟨B.len, fun j hj => B.off j fun ⟨k, d', h1, h2⟩ => hj ⟨k + 1, d', by simpa using h1, by simpa using h2⟩, fun k j d2 h1 h2 => ?_⟩
    cases k with
    | zero => simp at h1
    | succ k =>
      obtain ⟨a1, a2, a3, a4, a5, b1, b2, b3, b4⟩ := B.on k j d2 (by simpa using h1) (by simpa using h2)
      exact ⟨a1, a2, a3, a4, a5, b1, by simpa using b2, b3, b4⟩
  | .v _ :: _, (true, _) :: _, _, _, _, e, _ => by simp [backA] at e
  | _ :: _, (true, _) :: _, [], _, _, e, _ => by simp [backA] at e
  | _ :: _, (false, _) :: _, [], _, _, e, _ => by simp [backA] at e
  | [], _ :: _, _, _, _, e, _ => by simp [backA] at e
  | _ :: _, [], _, _, _, e, _ => by simp [backA] at e
end
end
end L3

/-! L3I: calls; statements. -/
namespace L3
open PySem PySem.Spec PyProof.Rows L2
section
variable {X : Cx} {Y : Wd} {W : WX} {U : Ev} {G G' R H H' : Hp} {σ : L2.St} {en en2 : En} {vs : List V} {avs : List Av} {args : List (Bool × D)} {outs : List Cell}
/-- behind the call -/
theorem back_sep (S : Sep Y G R H σ en) (P : PassOk Y G σ en vs avs args) (s : Same G G') (S' : Sep Y G' (restR R H σ en avs args) H' (vs.map some) outs) (B : BackOk en en2 avs args outs) :
    Sep Y G' R H' σ en2 ∧ Keep σ en σ en2 ∧ ∀ (v : V) (d : D) (own : Bool), Vok Y G' (restR R H σ en avs args) H' (vs.map some) outs v d own → Vok Y G' R H' σ en2 v d own := by
  have vget : ∀ {k : Nat} {v : V}, vs[k]? = some v → (vs.map some)[k]? = some (some v) := fun {k v} e => by rw [List.getElem?_map, e]; rfl
  -- a lent slot
  have on : ∀ {i : Nat}, Lent avs args i → ∃ (k : Nat) (v : V) (ow ow' ow2 : Ow) (d0 d' : D), en[i]? = some (some (ow, d0)) ∧ ow.isOwn = true ∧ outs[k]? = some (some (ow', d')) ∧ en2[i]? = some (some (ow2, d')) ∧ ((ow' = .brw ∧ ow2 = ow) ∨ (ow' = .brs ∧ ow2 = if ow = .brw then .brs else .sh)) ∧
      (vs.map some)[k]? = some (some v) ∧ σ[i]? = some (some v) := fun {i} ⟨k, d, h1, h2⟩ => by
    obtain ⟨i', ow0, v, p1, p2, p3, p4, p5⟩ := P.ln k d h1
    rw [h2] at p1; cases p1
    obtain ⟨ow, d0, ow', d', ow2, b1, b2, b3, b4⟩ := B.on k i d h1 h2
    rw [p2] at b1; cases b1
    exact ⟨k, v, ow0, ow', ow2, d, d', p2, p3, b2, b3, b4, vget p4, p5⟩
  have same_R : Same R (restR R H σ en avs args) := fun a o e => restR_R a o e
  have offO : ∀ {i : Nat}, ¬ Lent avs args i → ∀ {ow : Ow} {d : D} {a : Addr}, en[i]? = some (some (ow, d)) → ow.isOwn = true → σ[i]? = some (some (.ref a)) → OwnAt Y G R H a d → restR R H σ en avs args a = H a := fun {i} nl {ow d a} e k h o =>
    restR_own o.r (by rw [e]; exact k) nl h
  have sl : ∀ (i : Nat) (ow : Ow) (d : D), en2[i]? = some (some (ow, d)) → ow.isOwn = false → ∃ v, σ[i]? = some (some v) ∧ Rep Y G' v d := fun i ow d e k => by
    by_cases hl : Lent avs args i
    · obtain ⟨kk, v, ow0, ow', ow2, d0, d', e0, k0, o1, e2, hw, hv, hs⟩ := on hl
      rw [e] at e2; cases e2
      rcases hw with ⟨rfl, rfl⟩ | ⟨rfl, _⟩
      · rw [k0] at k; cases k
      · obtain ⟨v', f1, f2⟩ := S'.sh kk .brs _ o1 rfl
        rw [hv] at f1; cases f1
        exact ⟨v, hs, f2⟩
    · rw [B.off i hl] at e
      obtain ⟨v, f1, f2⟩ := S.sh i ow d e k
      exact ⟨v, f1, f2.mono s⟩
  have ol : ∀ (i : Nat) (ow : Ow) (d : D), en2[i]? = some (some (ow, d)) → ow.isOwn = true → ∃ a, σ[i]? = some (some (.ref a)) ∧ OwnAt Y G' R H' a d ∧ ((Lent avs args i ∧ restR R H σ en avs args a = none ∧ ∃ kk : Nat, isOwnC outs[kk]? = true ∧ (vs.map some)[kk]? = some (some (.ref a)) ∧ ∃ d, args[kk]? = some (true, d) ∧ avs[kk]? = some (.p i)) ∨ (¬ Lent avs args i ∧ isOwnC en[i]? = true ∧ (restR R H σ en avs args a).isSome = true)) := fun i ow d e k => by
    by_cases hl : Lent avs args i
    · obtain ⟨k0, dd, h1, h2⟩ := hl
      obtain ⟨i', ow0, v, p1, p2, p3, p4, p5⟩ := P.ln k0 dd h1
      rw [h2] at p1; cases p1
      obtain ⟨ow1, d0, ow', d', ow2, b1, b2, b3, hw⟩ := B.on k0 i dd h1 h2
      rw [p2] at b1; cases b1
      rw [e] at b3; cases b3
      rcases hw with ⟨rfl, rfl⟩ | ⟨rfl, hw⟩
      · obtain ⟨a, f1, f2⟩ := S'.own k0 .brw _ b2 rfl
        rw [vget p4] at f1; cases f1
        exact ⟨a, p5, ⟨f2.g, same_R.free f2.r, f2.t⟩, .inl ⟨⟨k0, _, h1, h2⟩, f2.r, k0, by rw [b2]; rfl, vget p4, _, h1, h2⟩⟩
      · subst hw
        split at k <;> cases k
    · rw [B.off i hl] at e
      obtain ⟨a, f1, f2⟩ := S.own i ow d e k
      have rr := offO hl e k f1 f2
      obtain ⟨o, ho, _⟩ := f2.t.at
      rw [ho] at rr
      exact ⟨a, f1, ⟨S'.gr a o rr, f2.r, f2.t.keep s (by rw [ho]; exact S'.rH a o rr)⟩, .inr ⟨hl, by rw [e]; exact k, by rw [rr]; rfl⟩⟩
  have owned : ∀ {i : Nat}, isOwnC en2[i]? = true → ∀ {a : Addr}, σ[i]? = some (some (.ref a)) → (Lent avs args i ∧ restR R H σ en avs args a = none ∧ ∃ kk : Nat, isOwnC outs[kk]? = true ∧ (vs.map some)[kk]? = some (some (.ref a)) ∧ ∃ d, args[kk]? = some (true, d) ∧ avs[kk]? = some (.p i)) ∨ (¬ Lent avs args i ∧ isOwnC en[i]? = true ∧ (restR R H σ en avs args a).isSome = true) := fun {i} h {a} e => by
    obtain ⟨ow, d, f1, f2⟩ := isOwnC_get h
    obtain ⟨a', g1, _, g3⟩ := ol i ow d f1 f2
    rw [e] at g1; cases g1
    exact g3
  refine ⟨⟨S'.gH, same_R.trans S'.rH, fun a o e => S'.gr a o (same_R a o e), by rw [S.len, B.len], sl, fun i ow d e k => ?_, fun i j a e1 e2 q1 q2 => ?_, ⟨S'.tb.t, S'.tb.g, S.tb.r⟩⟩, fun i => ⟨?_, fun _ => rfl⟩, fun v d own q => ?_⟩
  · obtain ⟨a, h1, h2, _⟩ := ol i ow d e k
    exact ⟨a, h1, h2⟩
  · rcases owned e1 q1 with ⟨l1, n1, kk, o1, v1, d1, a1, p1⟩ | ⟨l1, o1, n1⟩
    · rcases owned e2 q2 with ⟨l2, n2, kk2, o2, v2, d2, a2, p2⟩ | ⟨l2, o2, n2⟩
      · have := S'.apart kk kk2 a o1 o2 v1 v2
        subst this
        rw [p1] at p2; cases p2; rfl
      · rw [n1] at n2; cases n2
    · rcases owned e2 q2 with ⟨l2, n2, kk2, o2, v2, d2, a2, p2⟩ | ⟨l2, o2, n2⟩
      · rw [n2] at n1; cases n1
      · exact S.apart i j a o1 o2 q1 q2
  · by_cases hl : Lent avs args i
    · obtain ⟨kk, v, ow0, ow', ow2, d0, d', e0, k0, o1, e2, hw, hv, hs⟩ := on hl
      rw [e0, e2]
      rcases hw with ⟨rfl, rfl⟩ | ⟨rfl, hw⟩
      · rfl
      · subst hw
        cases ow0 <;> first | rfl | cases k0
    · rw [B.off i hl]
  · cases own with
    | false => exact q
    | true =>
      obtain ⟨a, rfl, o, f⟩ := q
      refine ⟨a, rfl, ⟨o.g, same_R.free o.r, o.t⟩, fun i hi z => ?_⟩
      rcases owned hi z with ⟨_, _, kk, o1, v1, _⟩ | ⟨_, _, n1⟩
      · exact f kk o1 v1
      · rw [o.r] at n1; cases n1
/-- f(e, ..), a def of the program -/
theorem s_call {f k : Nat} {fa : Addr} {fd : FuncData} {ps : List Str} {x : Str} {p pos : Pos} {e : Expr} {es : List Expr} {as' : Es} (F : FnOk X.prog X.w X.K X.mg X.base (L2.CX X.prog X.w) k fa fd ps (spF Y (U.C f))) (hr : Room k X.A) (hm : X.mg x = some (.ref fa)) (hk : PySem.W.keepIn X.K (.ref fa) = true)
    (hb : Binds X.K fd ps []) (tk : Takes X W) (ha : PA X (e :: es) (rdA Y W U as')) (hg : Gl X x := by rfl) (hdb : (x == ("__debug__" : Str)) = false := by decide) (he : starEach (e :: es) X.env = (false, eval e X.env) :: starEach es X.env := by rfl) (hpl : (backTo pos (starEach es X.env)).any (·.1) = false := by rfl) :
    PE X (.Call (.Name x p) (e :: es) [] pos) (rdE Y W U (.call f as')) := by
  refine (pe_callS F hr hg hm hk hb (fun σ => passAt tk σ) ha hdb he hpl).imp fun σ H Q ⟨G, R, en, S, p⟩ => ⟨G, R, en, S, ?_⟩
  rw [evE] at p
  refine Pst.bind p fun avs en1 vs H1 G1 _ s1 k1 S1 o1 p1 => ?_
  unfold doCall at p1
  split at p1
  · exact p1.elim
  · rename_i args ep
    obtain ⟨P, _⟩ := pass_ok S1 ep o1
    refine ⟨G1, _, args, pass_sep S1 P, ?_⟩
    split at p1
    · exact p1.elim
    · rename_i d own outs ec
      rw [ec]
      split at p1
      · rename_i en2 eb
        have B := back_ok eb P.nd
        intro v H2 G2 s2 S2 o2
        obtain ⟨h1, h2, h3⟩ := back_sep S1 P s2 S2 B
        exact p1 v H2 G2 s2 h2 h1 (h3 v d own o2)
      · exact p1.elim
    · rename_i x outs ec
      rw [ec]
      split at p1
      · rename_i en2 eb
        have B := back_ok eb P.nd
        intro cls dd H2 G2 s2 S2 o2
        obtain ⟨h1, h2, h3⟩ := back_sep S1 P s2 S2 B
        exact p1 cls dd H2 G2 s2 h2 h1 o2
      · exact p1.elim
end

/-! ### statements -/
def FlEnd (Y : Wd) (G R H : Hp) (σ : L2.St) (en : En) (fl : Fl) (D1 : Ends) : Prop := match fl with
  | .nx => D1.nx σ H | .br => D1.bk σ H | .ct => D1.ct σ H | .rt d own => ∀ v, Vok Y G R H σ en v d own → D1.rt v H
/-- what is wanted behind a statement's evaluation -/
def PstS (Y : Wd) (W : WX) (G R : Hp) (σ : L2.St) (en : En) (r : Rs Fl) (D1 : Ends) : Prop := match r with
  | .ok fl en' => ∀ σ' H' G', Same G G' → Keep σ en σ' en' → Sep Y G' R H' σ' en' → FlEnd Y G' R H' σ' en' fl D1
  | .er x en' => ∀ cls dd σ' H' G', Same G G' → Keep σ en σ' en' → Sep Y G' R H' σ' en' → ExOk Y G' x cls dd → W cls dd σ' H'
  | .bad => False
def rdSt (Y : Wd) (W : WX) (ev : En → Rs Fl) : TS := fun D1 σ H => ∃ G R en, Sep Y G R H σ en ∧ PstS Y W G R σ en (ev en) D1
abbrev rdS (Y : Wd) (W : WX) (U : Ev) (s : S) : TS := rdSt Y W (evS U.w U.C U.md s)
abbrev rdSs (Y : Wd) (W : WX) (U : Ev) (s : Ss) : TS := rdSt Y W (evSs U.w U.C U.md s)
section
variable {X : Cx} {Y : Wd} {W : WX} {U : Ev} {α β : Type} {ok1 : Hp → Hp → Hp → L2.St → En → α → β → Prop} {G R : Hp} {σ : L2.St} {en : En} {D1 : Ends}
theorem PstS.weak {r : Rs Fl} {G' : Hp} {σ1 : L2.St} {en1 : En} (h : PstS Y W G R σ en r D1) (s : Same G G') (k : Keep σ en σ1 en1) : PstS Y W G' R σ1 en1 r D1 := by
  cases r with
  | ok a en' => exact fun σ' H' G'' s' k' => h σ' H' G'' (s.trans s') (k.trans k')
  | er x en' => exact fun c d σ' H' G'' s' k' => h c d σ' H' G'' (s.trans s') (k.trans k')
  | bad => exact h
/-- an expression, then the rest -/
theorem PstS.bindE {r : Rs α} {f : α → En → Rs Fl} {Q1 : β → Hp → Prop} (h : PstS Y W G R σ en (r.bind f) D1)
    (k : ∀ a en' b H' G', r = .ok a en' → Same G G' → Keep σ en σ en' → Sep Y G' R H' σ en' → ok1 G' R H' σ en' a b → PstS Y W G' R σ en' (f a en') D1 → Q1 b H') : Pst Y W ok1 G R σ en r Q1 := by
  cases r with
  | ok a en' =>
    intro b H' G' s kp S o
    exact k a en' b H' G' rfl s kp S o (PstS.weak (r := f a en') h s kp)
  | er x en' => exact fun c d H' G' s kp => h c d σ H' G' s kp
  | bad => exact h
/-- a statement, then the rest -/
theorem PstS.bindS {r : Rs Fl} {f : Fl → En → Rs Fl} {D2 : Ends} (h : PstS Y W G R σ en (r.bind f) D1)
    (nx : ∀ en' σ' H' G', Same G G' → Keep σ en σ' en' → Sep Y G' R H' σ' en' → PstS Y W G' R σ' en' (f .nx en') D1 → D2.nx σ' H')
    (br : ∀ en' σ' H' G', Same G G' → Keep σ en σ' en' → Sep Y G' R H' σ' en' → PstS Y W G' R σ' en' (f .br en') D1 → D2.bk σ' H')
    (ct : ∀ en' σ' H' G', Same G G' → Keep σ en σ' en' → Sep Y G' R H' σ' en' → PstS Y W G' R σ' en' (f .ct en') D1 → D2.ct σ' H')
    (rt : ∀ d own en' σ' H' G' v, Same G G' → Keep σ en σ' en' → Sep Y G' R H' σ' en' → Vok Y G' R H' σ' en' v d own → PstS Y W G' R σ' en' (f (.rt d own) en') D1 → D2.rt v H') : PstS Y W G R σ en r D2 := by
  cases r with
  | ok fl en' =>
    intro σ' H' G' s kp S
    have w := PstS.weak (r := f fl en') h s kp
    cases fl with
    | nx => exact nx en' σ' H' G' s kp S w
    | br => exact br en' σ' H' G' s kp S w
    | ct => exact ct en' σ' H' G' s kp S w
    | rt d own => exact fun v o => rt d own en' σ' H' G' v s kp S o w
  | er x en' => exact h
  | bad => exact h
theorem PstS.now {fl : Fl} {H : Hp} (S : Sep Y G R H σ en) (h : PstS Y W G R σ en (.ok fl en) D1) : FlEnd Y G R H σ en fl D1 := h σ H G (Same.refl _) (Keep.refl _ _) S

theorem ss_nil : PSs X [] (rdSs Y W U .nil) := pss_nil.imp fun D σ H ⟨G, R, en, S, p⟩ => by
  rw [evSs] at p
  exact PstS.now S p
theorem evSs_cons (U : Ev) (s : S) (ss : Ss) (en : En) : evSs U.w U.C U.md (.cons s ss) en = (evS U.w U.C U.md s en).bind fun fl en => match fl with
    | .nx => evSs U.w U.C U.md ss en | .br => .ok .br en | .ct => .ok .ct en | .rt d o => .ok (.rt d o) en := by
  rw [evSs] <;> (generalize evS U.w U.C U.md s en = r; rcases r with ⟨fl, en⟩ | ⟨x, en⟩ | _ <;> first | rfl | (cases fl <;> rfl))
theorem ss_cons {st : Stmt} {rest : List Stmt} {s : S} {ss : Ss} (h1 : PS X st (rdS Y W U s)) (h2 : PSs X rest (rdSs Y W U ss)) : PSs X (st :: rest) (rdSs Y W U (.cons s ss)) := by
  refine (pss_cons h1 h2).imp fun D σ H ⟨G, R, en, S, p⟩ => ⟨G, R, en, S, ?_⟩
  rw [evSs_cons] at p
  refine PstS.bindS p (fun en' σ' H' G' s k S' p' => ⟨G', R, en', S', p'⟩) (fun en' σ' H' G' s k S' p' => PstS.now S' p') (fun en' σ' H' G' s k S' p' => PstS.now S' p') fun d own en' σ' H' G' v s k S' o p' => PstS.now S' p' v o
theorem st_pass {pos : Pos} : PS X (.Pass pos) (rdS Y W U .pass) := ps_pass.imp fun D σ H ⟨G, R, en, S, p⟩ => by
  rw [evS] at p; exact PstS.now S p
theorem st_brk {pos : Pos} : PS X (.Break pos) (rdS Y W U .brk) := ps_break.imp fun D σ H ⟨G, R, en, S, p⟩ => by
  rw [evS] at p; exact PstS.now S p
theorem st_cnt {pos : Pos} : PS X (.Continue pos) (rdS Y W U .cnt) := ps_continue.imp fun D σ H ⟨G, R, en, S, p⟩ => by
  rw [evS] at p; exact PstS.now S p
theorem st_ex {e : Expr} {m : E} {pos : Pos} (h : PE X e (rdE Y W U m)) (hs : swapsWith e none pos.line X.env = pure false := by rfl) : PS X (.Expr e pos) (rdS Y W U (.ex m)) := by
  refine (ps_expr h hs).imp fun D σ H ⟨G, R, en, S, p⟩ => ⟨G, R, en, S, ?_⟩
  rw [evS] at p
  exact PstS.bindE p fun q en1 v H1 G1 _ s1 k1 S1 o1 p1 => PstS.now S1 p1
theorem st_ret {e : Expr} {m : E} {pos : Pos} (h : PE X e (rdE Y W U m)) : PS X (.Return (some e) pos) (rdS Y W U (.ret m)) := by
  refine (ps_ret h).imp fun D σ H ⟨G, R, en, S, p⟩ => ⟨G, R, en, S, ?_⟩
  rw [evS] at p
  exact PstS.bindE p fun q en1 v H1 G1 _ s1 k1 S1 o1 p1 => PstS.now S1 p1 v o1
theorem st_retN {pos : Pos} : PS X (.Return none pos) (rdS Y W U (.ret (.cst .non))) := ps_retN.imp fun D σ H ⟨G, R, en, S, p⟩ => by
  rw [evS, evE] at p
  exact PstS.now S p .non .non
theorem st_if {c : Expr} {a b : List Stmt} {c' : E} {a' b' : Ss} {pos : Pos} (hc : PT X c (rdT Y W U c')) (ha : PSs X a (rdSs Y W U a')) (hb : PSs X b (rdSs Y W U b')) : PS X (.If c a b pos) (rdS Y W U (.ife c' a' b')) := by
  refine (ps_if hc ha hb).imp fun D σ H ⟨G, R, en, S, p⟩ => ⟨G, R, en, S, ?_⟩
  rw [evS] at p
  refine PstS.bindE p fun k en1 v H1 G1 _ s1 k1 S1 o1 p1 => ?_
  cases (show v = k from o1)
  cases k with
  | true => exact ⟨G1, R, en1, S1, p1⟩
  | false => exact ⟨G1, R, en1, S1, p1⟩
/-- target = value -/
theorem asg_red {e : TE} {g : TG} {tg : Tg} {m : E} {D1 : Ends} {σ : L2.St} {H : Hp} (h : rdS Y W U (.asg tg m) D1 σ H) : tAsg (rdE Y W U m) (rdG Y tg) D1 σ H := by
  obtain ⟨G, R, en, S, p⟩ := h
  refine ⟨G, R, en, S, ?_⟩
  rw [evS] at p
  refine PstS.bindE p fun q en1 v H1 G1 _ s1 k1 S1 o1 p1 => ⟨G1, R, en1, q.1, q.2, S1, o1, ?_⟩
  cases e2 : stTg tg q.1 q.2 en1 with
  | none => rw [e2] at p1; exact p1.elim
  | some en2 =>
    rw [e2] at p1
    intro σ' k2 S2 _
    have p1 : PstS Y W G1 R σ en1 (.ok .nx en2) D1 := p1
    exact p1 σ' H1 G1 (Same.refl _) k2 S2
theorem st_asg {tge e : Expr} {tg : Tg} {m : E} {pos : Pos} (he : PE X e (rdE Y W U m)) (hg : PG X tge (rdG Y tg)) (hs : swapsWithSole [tge] e pos.line X.env = pure false := by rfl) (hw : swappedStores [tge] e X.env = pure none := by rfl) (h1 : (assignEach [tge] X.env).map (·.2) = [assign tge X.env] := by rfl) :
    PS X (.Assign [tge] e pos) (rdS Y W U (.asg tg m)) := (ps_asg he hg hs hw h1).imp fun D σ H h => asg_red (e := rdE Y W U m) (g := rdG Y tg) h
/-- a loop's reading -/
theorem st_while {c : Expr} {body : List Stmt} {c' : E} {b' : Ss} {pos : Pos} (hp : PassesOwn (model X.prog X.w) X.A X.env X.xe) (hc : PT X c (rdT Y W U c')) (hb : PSs X body (rdSs Y W U b')) : PS X (.While c body [] pos) (rdS Y W U (.whl c' b')) := by
  refine (ps_while hp hc hb).imp fun D σ H ⟨G, R, en, S, p⟩ => ?_
  rw [evS] at p
  refine ⟨fun m σ H => ∃ G en, Sep Y G R H σ en ∧ PstS Y W G R σ en (loopW (fun en => toB (evE U.C U.md c' en)) (fun en => evSs U.w U.C U.md b' en) m en) D, ⟨_, G, en, S, p⟩, ?_⟩
  rintro m σ H ⟨G, en, S, p⟩
  cases m with
  | zero => exact p.elim
  | succ m =>
    refine ⟨G, R, en, S, ?_⟩
    simp only [loopW] at p
    refine PstS.bindE p fun k en1 v H1 G1 _ s1 k1 S1 o1 p1 => ?_
    cases (show v = k from o1)
    cases k with
    | false => exact PstS.now S1 p1
    | true =>
      rw [if_pos rfl] at p1 ⊢
      refine ⟨_, fun σ' H' n => ⟨m, Nat.lt_succ_self _, n⟩, G1, R, en1, S1, ?_⟩
      exact PstS.bindS p1 (fun en' σ' H' G' s k S' p' => ⟨G', en', S', p'⟩) (fun en' σ' H' G' s k S' p' => PstS.now S' p') (fun en' σ' H' G' s k S' p' => ⟨G', en', S', p'⟩) fun d own en' σ' H' G' v s k S' o p' => PstS.now S' p' v o
theorem st_for {tge iter : Expr} {body : List Stmt} {tg : Tg} {k : ItK} {as' : Es} {b' : Ss} {pos : Pos} (hp : PassesOwn (model X.prog X.w) X.A X.env X.xe) (hc : X.calm = true) (hi : PI X tge iter (rdI Y W U k as')) (hg : PG X tge (rdG Y tg)) (hb : PSs X body (rdSs Y W U b'))
    (hs : ∀ x, foldedSetIterable iter X.env x = pure x := by intro _; rfl) : PS X (.For tge iter body [] pos) (rdS Y W U (.fr tg k as' b')) := by
  refine (ps_for hp hc hi hg hb hs).imp fun D σ H ⟨G, R, en, S, p⟩ => ⟨G, R, en, S, ?_⟩
  rw [evS] at p
  have p : PstS Y W G R σ en ((evI U.C U.md k as' en).bind fun items en => loopF (fun d en => (stR (stTg tg d false en)).bind fun _ en => evSs U.w U.C U.md b' en) items en) D := by
    unfold evI; rw [Rs.bind_assoc]; exact p
  refine PstS.bindE p fun items en1 J H1 G1 _ s1 k1 S1 gv p1 => ?_
  refine ⟨fun i m σ H => m = items.length - i ∧ i ≤ items.length ∧ ∃ G2 en2, Same G1 G2 ∧ Sep Y G2 R H σ en2 ∧ PstS Y W G2 R σ en2 (loopF (fun d en => (stR (stTg tg d false en)).bind fun _ en => evSs U.w U.C U.md b' en) (items.drop i) en2) D,
    ⟨items.length, rfl, Nat.zero_le _, G1, en1, Same.refl _, S1, p1⟩, ?_⟩
  rintro i m σ H ⟨rfl, hi, G2, en2, s2, S2, p2⟩
  obtain ⟨g1, g2⟩ := gv i G2 _ H _ _ s2 S2
  by_cases hlt : i < items.length
  · right
    have ei : items[i]? = some items[i] := List.getElem?_eq_getElem hlt
    obtain ⟨go, yl⟩ := g1 _ ei
    refine ⟨go, fun σ' H' => ∃ G2 en2, Same G1 G2 ∧ Sep Y G2 R H' σ' en2 ∧ PstS Y W G2 R σ' en2 (loopF (fun d en => (stR (stTg tg d false en)).bind fun _ en => evSs U.w U.C U.md b' en) (items.drop (i + 1)) en2) D,
      fun σ' H' n => ⟨items.length - (i + 1), by omega, rfl, hlt, n⟩, fun x H' y => ?_⟩
    obtain ⟨G3, s3, S3, r3⟩ := yl x H' y
    rw [List.drop_eq_getElem_cons hlt] at p2
    simp only [loopF] at p2
    refine ⟨G3, _, en2, items[i], false, S3, r3, ?_⟩
    cases est : stTg tg items[i] false en2 with
    | none => rw [est] at p2; exact p2.elim
    | some en3 =>
      rw [est] at p2
      intro σ3 k3 S4 off3
      have p3 : PstS Y W G3 R σ3 en3 ((evSs U.w U.C U.md b' en3).bind fun fl en => match fl with
          | .nx => loopF (fun d en => (stR (stTg tg d false en)).bind fun _ en => evSs U.w U.C U.md b' en) (items.drop (i + 1)) en
          | .ct => loopF (fun d en => (stR (stTg tg d false en)).bind fun _ en => evSs U.w U.C U.md b' en) (items.drop (i + 1)) en
          | .br => .ok .nx en | .rt d o => .ok (.rt d o) en) D := PstS.weak (r := (evSs U.w U.C U.md b' en3).bind _) p2 s3 k3
      refine ⟨G3, R, en3, S4, ?_⟩
      exact PstS.bindS p3 (fun en' σ' H' G' s k S' p' => ⟨G', en', (s2.trans s3).trans s, S', p'⟩) (fun en' σ' H' G' s k S' p' => PstS.now S' p') (fun en' σ' H' G' s k S' p' => ⟨G', en', (s2.trans s3).trans s, S', p'⟩) fun d own en' σ' H' G' v s k S' o p' => PstS.now S' p' v o
  · left
    have e : i = items.length := by omega
    subst e
    refine ⟨g2 rfl, ?_⟩
    rw [List.drop_length] at p2
    exact PstS.now S2 p2
end
end L3

/-! L3J: several names at once; methods of lists; items set. -/
namespace L3
open PySem PySem.Spec PyProof.Rows L2
section
variable {X : Cx} {Y : Wd} {W : WX} {U : Ev}
/-! ### a, b = x, y -/
def VokL (Y : Wd) (G R H : Hp) (σ : L2.St) (en : En) : List V → List (D × Bool) → Prop
  | [], [] => True
  | v :: vs, (d, false) :: ps => Rep Y G v d ∧ VokL Y G R H σ en vs ps
  | v :: vs, (d, true) :: ps => (∃ a o, v = .ref a ∧ OwnAt Y G R H a d ∧ H a = some o ∧ Free σ en a ∧ VokL Y G (upd R a o) H σ en vs ps)
  | _, _ => False
def okP (Y : Wd) : Hp → Hp → Hp → L2.St → En → List (D × Bool) → List V → Prop := fun G R H σ en ps vs => VokL Y G R H σ en vs ps
abbrev rdP (Y : Wd) (W : WX) (U : Ev) (ms : Es) : TA := rd Y W (okP Y) (evP U.C U.md ms)
theorem VokL.after {G : Hp} : ∀ {vs : List V} {ps : List (D × Bool)} {R R' H : Hp} {σ σ' : L2.St} {en en' : En}, (∀ b, R' b = none → Free σ en b → R b = none ∧ Free σ' en' b) → VokL Y G R' H σ en vs ps → VokL Y G R H σ' en' vs ps
  | [], [], _, _, _, _, _, _, _, _, _ => trivial
  | v :: vs, (d, false) :: ps, _, _, _, _, _, _, _, h, q => ⟨q.1, VokL.after h q.2⟩
  | v :: vs, (d, true) :: ps, R, R', H, _, _, _, _, h, ⟨a, o, e, w, ho, f, q⟩ => ⟨a, o, e, ⟨w.g, (h a w.r f).1, w.t⟩, ho, (h a w.r f).2, VokL.after (fun b r f => by
      by_cases hb : b = a
      · subst hb; rw [upd_same] at r; cases r
      · rw [upd_ne hb] at r ⊢; exact h b r f) q⟩
  | [], _ :: _, _, _, _, _, _, _, _, _, q => q.elim
  | _ :: _, [], _, _, _, _, _, _, _, _, q => by cases q
theorem Pst.bindR {α β γ δ : Type} {ok1 : Hp → Hp → Hp → L2.St → En → α → β → Prop} {ok2 : Hp → Hp → Hp → L2.St → En → γ → δ → Prop} {G R R' : Hp} {σ : L2.St} {en : En} {r : Rs α} {f : α → En → Rs γ} {Q : δ → Hp → Prop} {Q1 : β → Hp → Prop}
    (sR : Same R R') (h : Pst Y W ok2 G R σ en (r.bind f) Q)
    (k : ∀ a en' b H' G', r = .ok a en' → Same G G' → Keep σ en σ en' → Sep Y G' R' H' σ en' → ok1 G' R' H' σ en' a b → Pst Y W ok2 G' R σ en' (f a en') Q → Q1 b H') : Pst Y W ok1 G R' σ en r Q1 := by
  cases r with
  | ok a en' =>
    intro b H' G' s kp S o
    exact k a en' b H' G' rfl s kp S o (Pst.weak (r := f a en') h s kp)
  | er x en' => exact fun c d H' G' s kp S => h c d H' G' s kp (S.lessR sR)
  | bad => exact h
theorem p_nil : PA X [] (rdP Y W U .nil) := pa_nil.imp fun σ H Q ⟨G, R, en, S, p⟩ => p [] H G (Same.refl _) (Keep.refl _ _) S trivial
theorem evP_cons (C : Nat → List (Bool × D) → CRes) (md : Nat → List Bool) (e : E) (es : Es) (en : En) : evP C md (.cons e es) en = (evE C md e en).bind fun p en => (evP C md es en).bind fun ps en => .ok (p :: ps) en := by
  rw [evP]
theorem p_cons {e : Expr} {es : List Expr} {m : E} {ms : Es} (h1 : PE X e (rdE Y W U m)) (h2 : PA X es (rdP Y W U ms)) (hs : starEach (e :: es) X.env = (false, eval e X.env) :: starEach es X.env := by rfl) : PA X (e :: es) (rdP Y W U (.cons m ms)) := by
  refine (pa_cons h1 h2 hs).imp fun σ H Q ⟨G, R, en, S, p⟩ => ⟨G, R, en, S, ?_⟩
  rw [evP_cons] at p
  refine Pst.bind p fun q en' v H' G' _ s k S' o p' => ?_
  obtain ⟨d, own⟩ := q
  cases own with
  | false =>
    refine rd.mk S' (Pst.bind p' fun ps en2 vs H2 G2 _ s2 k2 S2 o2 p2 => ?_)
    exact p2 (v :: vs) H2 G2 (Same.refl _) (Keep.refl _ _) S2 ⟨Rep.mono s2 o, o2⟩
  | true =>
    obtain ⟨a, rfl, w, f⟩ := o
    obtain ⟨u, hu, mu⟩ := w.t.at
    refine rd.mk (S'.reserve hu w.g f (notT_mut mu)) (Pst.bindR (same_new w.r) p' fun ps en2 vs H2 G2 _ s2 k2 S2 o2 p2 => ?_)
    have hH : H2 a = some u := S2.rH a u upd_same
    have gn : G2 a = none := S2.gr a u upd_same
    have fr : Free σ en2 a := fun i hi z => by
      obtain ⟨ow, d', e1, e2⟩ := isOwnC_get hi
      obtain ⟨b, e3, w2⟩ := S2.own i ow d' e1 e2
      rw [e3] at z; cases z
      have := w2.r
      rw [upd_same] at this; cases this
    exact p2 (.ref a :: vs) H2 G2 (Same.refl _) (Keep.refl _ _) (S2.lessR (same_new w.r)) ⟨a, u, rfl, ⟨gn, w.r, w.t.keep s2 (hH.trans hu.symm)⟩, hH, fr, o2⟩
theorem stVarsO_ok : ∀ {is : List Nat} {ps : List (D × Bool)} {vs : List V} {G R H : Hp} {σ : L2.St} {en en' : En}, Sep Y G R H σ en → VokL Y G R H σ en vs ps → stVarsO is ps en = some en' → Keep σ en (setAll σ is vs) en' ∧ Sep Y G R H (setAll σ is vs) en' ∧ is.length = vs.length
  | [], [], [], G, R, H, σ, en, en', S, r, e => by
    cases e
    exact ⟨Keep.refl _ _, S, rfl⟩
  | i :: is, (d, own) :: ps, v :: vs, G, R, H, σ, en, en', S, r, e => by
    simp only [stVarsO] at e
    split at e
    · rename_i en1 q
      have hv : Vok Y G R H σ en v d own := by
        cases own with
        | false => exact r.1
        | true =>
          obtain ⟨a, o, e, w, ho, f, _⟩ := r
          exact ⟨a, e, w, f⟩
      have S1 := S.st q hv
      have r2 : VokL Y G R H (σ.set i (some v)) en1 vs ps := by
        obtain ⟨il, _, e1⟩ := stVar_ok q
        have sl : i < σ.length := by rw [S.len]; exact il
        cases own with
        | false =>
          refine VokL.after (fun b r f => ⟨r, fun j hj z => ?_⟩) r.2
          subst e1
          by_cases hij : i = j
          · subst hij; rw [get_set_same il] at hj; cases hj
          · rw [get_set_ne hij] at hj
            rw [List.getElem?_set_ne hij] at z
            exact f j hj z
        | true =>
          obtain ⟨a, o, rfl, w, ho, f, r⟩ := r
          refine VokL.after (fun b rb fb => ?_) r
          have hba : b ≠ a := fun z => by subst z; rw [upd_same] at rb; cases rb
          rw [upd_ne hba] at rb
          refine ⟨rb, fun j hj z => ?_⟩
          subst e1
          by_cases hij : i = j
          · subst hij
            rw [List.getElem?_set_self sl] at z
            cases z
            exact hba rfl
          · rw [get_set_ne hij] at hj
            rw [List.getElem?_set_ne hij] at z
            exact fb j hj z
      obtain ⟨k, S2, l⟩ := stVarsO_ok S1 r2 e
      exact ⟨(Keep.st q).trans k, S2, by simp [l]⟩
    · cases e
  | [], _ :: _, _, _, _, _, _, _, _, _, _, e => by cases e
  | _ :: _, [], _, _, _, _, _, _, _, _, _, e => by cases e
  | [], [], _ :: _, _, _, _, _, _, _, _, r, _ => by cases r
  | _ :: _, (_, false) :: _, [], _, _, _, _, _, _, _, r, _ => by cases r
  | _ :: _, (_, true) :: _, [], _, _, _, _, _, _, _, r, _ => by cases r
theorem par_red {is : List Nat} {as' : Es} {D1 : Ends} {σ : L2.St} {H : Hp} (h : rdS Y W U (.par is as') D1 σ H) : rdP Y W U as' σ H fun vs H1 => vs.length = is.length ∧ D1.nx (setAll σ is vs) H1 := by
  obtain ⟨G, R, en, S, p⟩ := h
  refine ⟨G, R, en, S, ?_⟩
  rw [evS] at p
  refine PstS.bindE p fun ps en1 vs H1 G1 _ s1 k1 S1 o1 p1 => ?_
  cases e2 : stVarsO is ps en1 with
  | none => rw [e2] at p1; exact p1.elim
  | some en2 =>
    rw [e2] at p1
    obtain ⟨k, S2, l⟩ := stVarsO_ok S1 o1 e2
    have p1 : PstS Y W G1 R σ en1 (.ok .nx en2) D1 := p1
    exact ⟨l.symm, p1 _ H1 G1 (Same.refl _) k S2⟩
theorem st_par2 {i j : Nat} {x y : Str} {a b : Expr} {as' : Es} {px py pt pos : Pos} {kt k2 pt2} (hc : X.calm = true) (hN : X.N.Nodup) (ha : PA X [a, b] (rdP Y W U as')) (hi : X.N[i]? = some x := by rfl) (hj : X.N[j]? = some y := by rfl) (hij : i ≠ j := by decide)
    (hx : X.env.scope.names.lookup x = some .local := by rfl) (hy : X.env.scope.names.lookup y = some .local := by rfl)
    (hw : swappedStores [.Tuple [.Name x px, .Name y py] kt pt] (.Tuple [a, b] k2 pt2) X.env = pure (some [x, y]) := by rfl)
    (hs : swapsWithSole [.Tuple [.Name x px, .Name y py] kt pt] (.Tuple [a, b] k2 pt2) pos.line X.env = pure false := by rfl) :
    PS X (.Assign [.Tuple [.Name x px, .Name y py] kt pt] (.Tuple [a, b] k2 pt2) pos) (rdS Y W U (.par [i, j] as')) :=
  (ps_par hc hN hi hj hij hx hy ha hw hs).imp fun D σ H h => by
    obtain ⟨G, R, en, S, p⟩ := par_red h
    refine ⟨G, R, en, S, ?_⟩
    have imp : ∀ vs H1, (vs.length = [i, j].length ∧ D.nx (setAll σ [i, j] vs) H1) → ∃ v w, vs = [v, w] ∧ D.nx ((σ.set i (some v)).set j (some w)) H1 := fun vs H1 ⟨h1, h2⟩ => by
      match vs, h1 with
      | [v, w], _ => exact ⟨v, w, rfl, h2⟩
    generalize evP U.C U.md as' en = r at p
    cases r with
    | ok a en' => exact fun b H' G' s k S o => imp _ _ (p b H' G' s k S o)
    | er x en' => exact p
    | bad => exact p
theorem st_par3 {i j l : Nat} {x y z : Str} {a b c : Expr} {as' : Es} {px py pz pt pos : Pos} {kt k2 pt2} (hc : X.calm = true) (hN : X.N.Nodup) (ha : PA X [a, b, c] (rdP Y W U as')) (hi : X.N[i]? = some x := by rfl) (hj : X.N[j]? = some y := by rfl) (hl : X.N[l]? = some z := by rfl)
    (hij : i ≠ j := by decide) (hil : i ≠ l := by decide) (hjl : j ≠ l := by decide)
    (hx : X.env.scope.names.lookup x = some .local := by rfl) (hy : X.env.scope.names.lookup y = some .local := by rfl) (hz : X.env.scope.names.lookup z = some .local := by rfl)
    (hw : swappedStores [.Tuple [.Name x px, .Name y py, .Name z pz] kt pt] (.Tuple [a, b, c] k2 pt2) X.env = pure (some [x, y, z]) := by rfl)
    (hs : swapsWithSole [.Tuple [.Name x px, .Name y py, .Name z pz] kt pt] (.Tuple [a, b, c] k2 pt2) pos.line X.env = pure false := by rfl) :
    PS X (.Assign [.Tuple [.Name x px, .Name y py, .Name z pz] kt pt] (.Tuple [a, b, c] k2 pt2) pos) (rdS Y W U (.par [i, j, l] as')) :=
  (ps_par3 hc hN hi hj hl hij hil hjl hx hy hz ha hw hs).imp fun D σ H h => by
    obtain ⟨G, R, en, S, p⟩ := par_red h
    refine ⟨G, R, en, S, ?_⟩
    have imp : ∀ vs H1, (vs.length = [i, j, l].length ∧ D.nx (setAll σ [i, j, l] vs) H1) → ∃ u v w, vs = [u, v, w] ∧ D.nx (((σ.set i (some u)).set j (some v)).set l (some w)) H1 := fun vs H1 ⟨h1, h2⟩ => by
      match vs, h1 with
      | [u, v, w], _ => exact ⟨u, v, w, rfl, h2⟩
    generalize evP U.C U.md as' en = r at p
    cases r with
    | ok a en' => exact fun b H' G' s k S o => imp _ _ (p b H' G' s k S o)
    | er x en' => exact p
    | bad => exact p
/-! ### name = [..] -/
theorem Pst.impQ {α β : Type} {ok1 : Hp → Hp → Hp → L2.St → En → α → β → Prop} {G R : Hp} {σ : L2.St} {en : En} {r : Rs α} {Q Q' : β → Hp → Prop} (h : Pst Y W ok1 G R σ en r Q) (k : ∀ b H, Q b H → Q' b H) : Pst Y W ok1 G R σ en r Q' := by
  cases r with
  | ok a en' => exact fun b H' G' s kp S o => k _ _ (h b H' G' s kp S o)
  | er x en' => exact h
  | bad => exact h
theorem rdG_nm {i : Nat} {v : V} {σ : L2.St} {H : Hp} {Q : L2.St → Hp → Prop} (h : rdG Y (.nm i) v σ H Q) : gName i v σ H Q := by
  obtain ⟨G, R, en, d, own, S, o, m⟩ := h
  cases q : stTg (.nm i) d own en with
  | none => rw [q] at m; exact m.elim
  | some en' =>
    rw [q] at m
    have q' : stVar i d own en = some en' := q
    exact m _ (Keep.st q') (S.st q' o) fun j hj => List.getElem?_set_ne fun z => hj (by subst z; exact List.mem_cons_self)
theorem asgL_red {tg : TI} {i : Nat} {vs : List Nat} {tm : Tg} {k : ItK} {as' : Es} {c' e' : E} {tt : TT} {D1 : Ends} {σ : L2.St} {H : Hp} (ht : tt = rdT Y W0 U c' ∨ (tt = tYes ∧ c' = .cst (.bl true)))
    (h : rdS Y W U (.asg (.nm i) (.lc vs tm k as' c' e')) D1 σ H) : tAsg (tLc (rdI Y W U k as') (rdG Y tm) tt (rdE Y W0 U e') vs) (gName i) D1 σ H := by
  obtain ⟨G, R, en, S, p⟩ := asg_red (e := rdE Y W U (.lc vs tm k as' c' e')) (g := rdG Y (.nm i)) h
  exact lc_red ht ⟨G, R, en, S, p.impQ fun b H q => rdG_nm q⟩
theorem st_asgLc0 {i : Nat} {y : Str} {py : Pos} {elt tg iter : Expr} {scope : Scope} {own : List (Str × Nat)} {pos spos : Pos} {tm : Tg} {k : ItK} {as' : Es} {e' : E} (hc : X.calm = true) (nd : X.N.Nodup) (hi : PI X tg iter (rdI Y W U k as')) (ok : BlkOk X.N X.env.scope scope own)
    (hg : ∀ (s : Shared) (H : Hp) (C : Addr) (cl : List (Str × Addr)) (fp : List Addr), PG (X.blk s H scope (compEnvC scope cl C X.env) fp) tg (rdG Y tm))
    (he : ∀ (s : Shared) (H : Hp) (C : Addr) (cl : List (Str × Addr)) (fp : List Addr), PE (X.blk s H scope (compEnvC scope cl C X.env) fp) elt (rdE Y W0 U e'))
    (hy : X.N[i]? = some y := by rfl) (hyl : X.env.scope.names.lookup y = some .local := by rfl) (hk : X.env.scope.kind = .function := by rfl) (hl : (py.line == pos.line) = true := by rfl) (ha : (scope.names.any fun (n, k) => n == y && (k == .local || k == .cell)) = false := by rfl) (hs : ∀ x, foldedSetIterable iter X.env x = pure x := by intro _; rfl) :
    PS X (.Assign [.Name y py] (.ListComp elt [⟨tg, iter, [], 0⟩] scope pos) spos) (rdS Y W U (.asg (.nm i) (.lc (own.map (·.2)) tm k as' (.cst (.bl true)) e'))) :=
  (ps_setLc (tt := tYes) hc nd hy hyl (sw_true hk hyl hl ha) hi ok hg (fun _ _ _ _ _ => pts_nil) he hs).imp fun _ _ _ q => asgL_red (tg := fun _ _ _ => False) (.inr ⟨rfl, rfl⟩) q
theorem st_asgLc1 {i : Nat} {y : Str} {py : Pos} {elt tg iter c : Expr} {scope : Scope} {own : List (Str × Nat)} {pos spos : Pos} {tm : Tg} {k : ItK} {as' : Es} {e' c' : E} (hc : X.calm = true) (nd : X.N.Nodup) (hi : PI X tg iter (rdI Y W U k as')) (ok : BlkOk X.N X.env.scope scope own)
    (hg : ∀ (s : Shared) (H : Hp) (C : Addr) (cl : List (Str × Addr)) (fp : List Addr), PG (X.blk s H scope (compEnvC scope cl C X.env) fp) tg (rdG Y tm))
    (ht : ∀ (s : Shared) (H : Hp) (C : Addr) (cl : List (Str × Addr)) (fp : List Addr), PT (X.blk s H scope (compEnvC scope cl C X.env) fp) c (rdT Y W0 U c'))
    (he : ∀ (s : Shared) (H : Hp) (C : Addr) (cl : List (Str × Addr)) (fp : List Addr), PE (X.blk s H scope (compEnvC scope cl C X.env) fp) elt (rdE Y W0 U e'))
    (hy : X.N[i]? = some y := by rfl) (hyl : X.env.scope.names.lookup y = some .local := by rfl) (hk : X.env.scope.kind = .function := by rfl) (hl : (py.line == pos.line) = true := by rfl) (ha : (scope.names.any fun (n, k) => n == y && (k == .local || k == .cell)) = false := by rfl) (hs : ∀ x, foldedSetIterable iter X.env x = pure x := by intro _; rfl) :
    PS X (.Assign [.Name y py] (.ListComp elt [⟨tg, iter, [c], 0⟩] scope pos) spos) (rdS Y W U (.asg (.nm i) (.lc (own.map (·.2)) tm k as' c' e'))) :=
  (ps_setLc (tt := rdT Y W0 U c') hc nd hy hyl (sw_true hk hyl hl ha) hi ok hg (fun s H C cl fp => pts_one (ht s H C cl fp)) he hs).imp fun _ _ _ q => asgL_red (tg := fun _ _ _ => False) (.inl rfl) q
end
end L3

/-! L3K: methods of lists; items set. -/
namespace L3
open PySem PySem.Spec PyProof.Rows L2
section
variable {X : Cx} {Y : Wd} {W : WX} {U : Ev}
theorem Mt.run_lst {m : Mt} {d : D} {ds : List D} {q : D × D} (e : m.run d ds = some q) : ∃ xs, d = .lst xs := by
  cases d <;> first | exact ⟨_, rfl⟩ | (cases m <;> cases e)
theorem mt_fin {m : Mt} {i : Nat} {avs : List Av} {vs : List V} {v : V} {G R H : Hp} {σ : L2.St} {en : En} {Q : VK} (S : Sep Y G R H σ en) (o1 : σ[i]? = some (some v)) (oA : AokL Y G σ en vs avs) (p : Pst Y W (okV Y) G R σ en (mtFin m i avs en) Q) :
    ∃ a vs0 xs ds d' r, v = .ref a ∧ H a = some (.lst vs0) ∧ RepL Y G vs0 xs ∧ RepL Y G vs ds ∧ m.run (.lst xs) ds = some (d', r) ∧ ∀ vs1 ds1 w, d' = .lst ds1 → RepL Y G vs1 ds1 → Rep Y G w r → Q w (upd H a (.lst vs1)) := by
  unfold mtFin at p
  split at p
  · rename_i ds ow d e1 e2
    split at p
    · rename_i hown
      split at p
      · rename_i d' r e3
        obtain ⟨xs, rfl⟩ := Mt.run_lst e3
        obtain ⟨a, f1, f2⟩ := S.own i ow _ e2 hown
        rw [o1] at f1; cases f1
        cases f2.t with
        | lst h1 h2 =>
          refine ⟨a, _, xs, ds, d', r, rfl, h1, h2, repL_of oA e1, e3, fun vs1 ds1 w ed r1 r2 => ?_⟩
          subst ed
          exact p w _ G (Same.refl _) (Keep.setSame e2 rfl) (S.write e2 hown o1 (.lst upd_same r1)) r2
      · exact p.elim
    · exact p.elim
  · exact p.elim
/-- what a method's promise must say -/
def MtSp (Y : Wd) (m : Mt) (r : V → List V → Hp → VK → Prop) : Prop := ∀ (G H : Hp) (a : Addr) (vs0 vs : List V) (xs ds : List D) (d' res : D) (Q : VK), Same G H → H a = some (.lst vs0) → RepL Y G vs0 xs → RepL Y G vs ds → m.run (.lst xs) ds = some (d', res) →
  (∀ vs1 ds1 w, d' = .lst ds1 → RepL Y G vs1 ds1 → Rep Y G w res → Q w (upd H a (.lst vs1))) → r (.ref a) vs H Q
theorem mt_core {m : Mt} {i : Nat} {as' : Es} {r : V → List V → Hp → VK → Prop} {σ : L2.St} {H : Hp} {Q : VK} (hm : MtSp Y m r) (h : rdE Y W U (.mt m i as') σ H Q) : tBM X.K "list" r (rdX Y W U (.pk i)) (rdA Y W U as') σ H Q := by
  obtain ⟨G, R, en, S, p⟩ := h
  refine ⟨G, R, en, S, ?_⟩
  rw [evE] at p
  split at p
  · rename_i hat
    unfold mtAt at hat
    split at hat
    · rename_i ow d e
      obtain ⟨h1, h2⟩ := Bool.and_eq_true_iff.mp hat
      obtain ⟨a, f1, f2⟩ := S.own i ow d e h1
      show Pst Y W (okA Y) G R σ en (match en[i]? with | some (some _) => .ok (.p i) en | _ => .bad) _
      rw [e]
      intro v H1 G1 s1 k1 S1 o1
      have o1 : σ[i]? = some (some v) := o1
      rw [f1] at o1; cases o1
      refine ⟨?_, rd.mk S1 (Pst.bind (Pst.weak (r := (evA U.C U.md as' en).bind _) p s1 (Keep.refl _ _)) fun avs en2 vs H2 G2 _ s2 k2 S2 o2 p2 => ?_)⟩
      · obtain ⟨a', g1, g2⟩ := S1.own i ow d e h1
        rw [f1] at g1; cases g1
        have t := g2.t
        cases d with
        | lst ds => cases t with | lst t1 t2 => exact .inl ⟨rfl, _, .inl (.inl t1)⟩
        | _ => cases h2
      · obtain ⟨a', vs0, xs, ds, d', res, ea, q1, q2, q3, q4, q5⟩ := mt_fin S2 f1 o2 p2
        cases ea
        exact hm G2 H2 a vs0 vs xs ds d' res Q S2.gH q1 q2 q3 q4 q5
    · cases hat
  · exact p.elim
theorem mt_core0 {m : Mt} {i : Nat} {r : V → List V → Hp → VK → Prop} {σ : L2.St} {H : Hp} {Q : VK} (hm : MtSp Y m r) (h : rdE Y W U (.mt m i .nil) σ H Q) : tBM0 X.K "list" r (rdX Y W U (.pk i)) σ H Q := by
  obtain ⟨G, R, en, S, p⟩ := mt_core (X := X) hm h
  refine ⟨G, R, en, S, p.impQ fun v H1 ⟨t, G1, R1, en1, S1, p1⟩ => ⟨t, ?_⟩⟩
  rw [evA] at p1
  exact p1 [] H1 G1 (Same.refl _) (Keep.refl _ _) S1 trivial
theorem sp_app : MtSp Y .app rAppend := fun G H a vs0 vs xs ds d' res Q gH h1 h2 h3 h4 h5 => by
  match ds, h4 with
  | [y], h4 =>
    obtain ⟨v, rfl, hv⟩ := repL1 h3
    have h4 : (if decide (xs.length < sizeLine) = true then some (D.lst (xs ++ [y]), D.non) else none) = some (d', res) := h4
    split at h4
    · rename_i hl
      cases h4
      exact ⟨a, vs0, v, rfl, rfl, h1, by rw [h2.length]; exact of_decide_eq_true hl, h5 _ _ _ rfl (h2.append (.cons hv .nil)) .non⟩
    · cases h4
  | [], h4 => cases h4
  | _ :: _ :: _, h4 => cases h4
theorem sp_ext : MtSp Y .ext rExtend := fun G H a vs0 vs xs ds d' res Q gH h1 h2 h3 h4 h5 => by
  match ds, h4 with
  | [.lst ys], h4 =>
    obtain ⟨v, rfl, hv⟩ := repL1 h3
    cases hv with | lst g1 g2 =>
      have h4 : (if fit (xs.length + ys.length) = true then some (D.lst (xs ++ ys), D.non) else none) = some (d', res) := h4
      split at h4
      · rename_i hl
        cases h4
        exact ⟨a, _, vs0, _, rfl, rfl, h1, gH _ _ g1, by rw [h2.length, g2.length]; exact of_decide_eq_true hl, h5 _ _ _ rfl (h2.append g2) .non⟩
      · cases h4
  | [], h4 => cases h4
  | [.non], h4 | [.bl _], h4 | [.int _], h4 | [.str _], h4 | [.tup _], h4 | [.fls _], h4 | [.dct _ _], h4 | [.set _], h4 | [.obj _ _ _], h4 | [.exc _ _ _], h4 | [.thk _ _], h4 => cases h4
  | z :: _ :: _, h4 => cases z <;> cases h4
theorem sp_pop : MtSp Y .pop rPop := fun G H a vs0 vs xs ds d' res Q gH h1 h2 h3 h4 h5 => by
  match ds, h4 with
  | [], h4 =>
    cases h3
    have h4 : (match xs[xs.length - 1]? with | some y => some (D.lst xs.dropLast, y) | none => none) = some (d', res) := h4
    split at h4
    · rename_i y e
      cases h4
      obtain ⟨v, e1, e2⟩ := h2.get e
      exact ⟨a, vs0, v, rfl, rfl, h1, by rw [h2.length]; exact e1, h5 _ _ _ rfl h2.dropLast e2⟩
    · cases h4
  | _ :: _, h4 => cases h4
theorem sp_popAt : MtSp Y .popAt rPopAt := fun G H a vs0 vs xs ds d' res Q gH h1 h2 h3 h4 h5 => by
  match ds, h4 with
  | [.int i], h4 =>
    obtain ⟨v, rfl, hv⟩ := repL1 h3
    cases hv
    have h4 : (if decide (-(2 ^ 63) ≤ i ∧ i < 2 ^ 63) = true then (match ixN xs.length i with | some k => (match xs[k]? with | some y => some (D.lst (xs.eraseIdx k), y) | none => none) | none => none) else none) = some (d', res) := h4
    split at h4
    · rename_i hi
      have hi := of_decide_eq_true hi
      split at h4
      · rename_i k e
        split at h4
        · rename_i y e2
          cases h4
          obtain ⟨v, e1, e3⟩ := h2.get e2
          exact ⟨a, vs0, i, k, v, rfl, rfl, h1, hi.1, hi.2, by rw [h2.length]; exact (ixN_seq e).1, e1, h5 _ _ _ rfl (h2.eraseIdx k) e3⟩
        · cases h4
      · cases h4
    · cases h4
  | [], h4 => cases h4
  | [.non], h4 | [.bl _], h4 | [.lst _], h4 | [.str _], h4 | [.tup _], h4 | [.fls _], h4 | [.dct _ _], h4 | [.set _], h4 | [.obj _ _ _], h4 | [.exc _ _ _], h4 | [.thk _ _], h4 => cases h4
  | z :: _ :: _, h4 => cases z <;> cases h4
theorem sp_clear : MtSp Y .clear rClear := fun G H a vs0 vs xs ds d' res Q gH h1 h2 h3 h4 h5 => by
  match ds, h4 with
  | [], h4 =>
    cases h3
    cases h4
    exact ⟨a, vs0, rfl, rfl, h1, h5 _ _ _ rfl .nil .non⟩
  | _ :: _, h4 => cases h4
variable {i : Nat} {x : Str} {e : Expr} {es : List Expr} {as' : Es} {p apos cpos : Pos}
theorem s_pop0 (ho : PE X (.Name x p) (rdX Y W U (.pk i))) (hline : (apos.endLine == cpos.line) = true := by rfl) : PE X (.Call (.Attribute (.Name x p) "pop" apos) [] [] cpos) (rdE Y W U (.mt .pop i .nil)) :=
  (pe_bm0 PySem.F.plainAttrs_list PySem.F.slot_list_pop PySem.F.type_list_pop mt_pop ho rfl hline).imp fun _ _ _ q => mt_core0 sp_pop q
theorem s_clear (ho : PE X (.Name x p) (rdX Y W U (.pk i))) (hline : (apos.endLine == cpos.line) = true := by rfl) : PE X (.Call (.Attribute (.Name x p) "clear" apos) [] [] cpos) (rdE Y W U (.mt .clear i .nil)) :=
  (pe_bm0 PySem.F.plainAttrs_list PySem.F.slot_list_clear PySem.F.type_list_clear mt_clear ho rfl hline).imp fun _ _ _ q => mt_core0 sp_clear q
theorem s_popAt (ho : PE X (.Name x p) (rdX Y W U (.pk i))) (ha : PA X [e] (rdA Y W U as')) (hline : (apos.endLine == cpos.line) = true := by rfl) (hs : starEach [e] X.env = (false, eval e X.env) :: starEach [] X.env := by rfl) :
    PE X (.Call (.Attribute (.Name x p) "pop" apos) [e] [] cpos) (rdE Y W U (.mt .popAt i as')) :=
  (pe_bm PySem.F.plainAttrs_list PySem.F.slot_list_pop PySem.F.type_list_pop mt_popAt ho ha rfl (by rw [hs]; rfl) hline hs rfl).imp fun _ _ _ q => mt_core sp_popAt q
theorem s_app (ho : PE X (.Name x p) (rdX Y W U (.pk i))) (ha : PA X [e] (rdA Y W U as')) (hline : (apos.endLine == cpos.line) = true := by rfl) (hs : starEach [e] X.env = (false, eval e X.env) :: starEach [] X.env := by rfl) :
    PE X (.Call (.Attribute (.Name x p) "append" apos) [e] [] cpos) (rdE Y W U (.mt .app i as')) :=
  (pe_bm PySem.F.plainAttrs_list PySem.F.slot_list_append PySem.F.type_list_append mt_append ho ha rfl (by rw [hs]; rfl) hline hs rfl).imp fun _ _ _ q => mt_core sp_app q
theorem s_ext (ho : PE X (.Name x p) (rdX Y W U (.pk i))) (ha : PA X [e] (rdA Y W U as')) (hline : (apos.endLine == cpos.line) = true := by rfl) (hs : starEach [e] X.env = (false, eval e X.env) :: starEach [] X.env := by rfl) :
    PE X (.Call (.Attribute (.Name x p) "extend" apos) [e] [] cpos) (rdE Y W U (.mt .ext i as')) :=
  (pe_bm PySem.F.plainAttrs_list PySem.F.slot_list_extend PySem.F.type_list_extend mt_extend ho ha rfl (by rw [hs]; rfl) hline hs rfl).imp fun _ _ _ q => mt_core sp_ext q
/-! ### o[i] = e -/
theorem evA_two (C : Nat → List (Bool × D) → CRes) (md : Nat → List Bool) (a b : E) (en : En) : evA C md (.cons a (.cons b .nil)) en = (argOf a (evE C md a en) en).bind fun x en => (argOf b (evE C md b en) en).bind fun y en => .ok [x, y] en := by
  rw [evA_cons]
  congr 1; funext x en
  rw [evA_cons, Rs.bind_assoc]
  congr 1
theorem st_seti {v ix : Expr} {v' ix' : E} {spos pos : Pos} (ho : PE X (.Name x p) (rdX Y W U (.pk i))) (hv : PE X v (rdX Y W U v')) (hi : PE X ix (rdX Y W U ix'))
    (ha : ∀ v, assign (.Subscript (.Name x p) ix spos) X.env v = (do
      let ov ← holding [v] (eval (.Name x p) X.env)
      let iv ← holding [v, ov] (eval ix X.env)
      standAt spos
      holding [v, ov, iv] (setItem ov iv v)
      release [v, ov, iv] []) := by intro _; rfl) (hs : swapsWithSole [.Subscript (.Name x p) ix spos] v pos.line X.env = pure false := by rfl) (hw : swappedStores [.Subscript (.Name x p) ix spos] v X.env = pure none := by rfl)
    (h1 : (assignEach [.Subscript (.Name x p) ix spos] X.env).map (·.2) = [assign (.Subscript (.Name x p) ix spos) X.env] := by rfl) :
    PS X (.Assign [.Subscript (.Name x p) ix spos] v pos) (rdS Y W U (.seti i v' ix')) := by
  refine (ps_asg hv (pg_sub ho hi set_list ha) hs hw h1).imp fun D1 σ H ⟨G, R, en, S, q⟩ => ⟨G, R, en, S, ?_⟩
  rw [evS] at q
  refine PstS.bindE q fun av1 en1 w H1 G1 hev s1 k1 S1 o1 q1 => ?_
  split at q1
  · rename_i hat
    unfold mtAt at hat
    split at hat
    · rename_i ow d e
      obtain ⟨h1, h2⟩ := Bool.and_eq_true_iff.mp hat
      obtain ⟨a, f1, f2⟩ := S1.own i ow d e h1
      refine rd.mk S1 ?_
      show Pst Y W (okA Y) G1 R σ en1 (match en1[i]? with | some (some _) => .ok (.p i) en1 | _ => .bad) _
      rw [e]
      intro v H2 G2 s2 k2 S2 o2
      have o2 : σ[i]? = some (some v) := o2
      rw [f1] at o2; cases o2
      refine rd.mk S2 (PstS.bindE (PstS.weak (r := (argOf ix' (evE U.C U.md ix' en1) en1).bind _) q1 s2 (Keep.refl _ _)) fun av2 en3 u H3 G3 _ s3 k3 S3 o3 q3 => ?_)
      have fin := PstS.bindE (ok1 := okV Y) (Q1 := fun _ H4 => D1.nx σ H4) q3 fun _ en4 _ H4 G4 _ s4 k4 S4 _ q4 => PstS.now S4 q4
      obtain ⟨a', vs0, xs, ds, d', res, ea, g1, g2, g3, g4, g5⟩ := mt_fin S3 f1 (vs := [w, u]) (avs := [av1, av2]) ⟨Aok.mono (en := en1) (en' := en3) (Aok.mono (en' := en1) o1 s2) s3, o3, trivial⟩ fin
      cases ea
      match ds, g4 with
      | [y, .int k], g4 =>
        obtain ⟨v1, v2, ev, r1, r2⟩ := repL2 g3
        cases ev
        cases r2
        have g4 : (match ixN xs.length k with | some k => some (D.lst (xs.set k y), D.non) | none => none) = some (d', res) := g4
        split at g4
        · rename_i kk ek
          cases g4
          exact ⟨a, vs0, k, kk, rfl, rfl, g1, by rw [g2.length]; exact ek, g5 _ _ _ rfl (g2.set kk r1) .non⟩
        · cases g4
      | [], g4 => cases g4
      | [_], g4 => cases g4
      | [_, .non], g4 | [_, .bl _], g4 | [_, .lst _], g4 | [_, .str _], g4 | [_, .tup _], g4 | [_, .fls _], g4 | [_, .dct _ _], g4 | [_, .set _], g4 | [_, .obj _ _ _], g4 | [_, .exc _ _ _], g4 | [_, .thk _ _], g4 => cases g4
      | _ :: z :: _ :: _, g4 => cases z <;> cases g4
    · cases hat
  · exact q1.elim
end
end L3

/-! L3L: order of tuples within tuples; list.count, list.index. -/
namespace L3
open PySem PySem.Spec PyProof.Rows L2
section
variable {X : Cx} {Y : Wd} {W : WX} {U : Ev} {pins : List (Addr × Obj)} {σ : L2.St} {G R H : Hp} {s : Shared}
def eF (xs ys : List D) (j : Nat) : Bool := match xs[j]?, ys[j]? with
  | some x, some y => (eqD x y).getD false | _, _ => false
def rF (f : D → D → Option Bool) (xs ys : List D) (j : Nat) : Bool := match xs[j]?, ys[j]? with
  | some x, some y => (f x y).getD false | _, _ => false
theorem lex_shift {e r : Nat → Bool} {z : Bool} : ∀ (k i : Nat), Ob.lexAt (fun j => e (j + 1)) (fun j => r (j + 1)) z i k = Ob.lexAt e r z (i + 1) k
  | 0, _ => rfl
  | k + 1, i => by rw [Ob.lexAt_succ, Ob.lexAt_succ, lex_shift k (i + 1)]
theorem ltL_lex {f : D → D → Option Bool} : ∀ {xs ys : List D} {b : Bool}, ltL f xs ys = some b → Ob.lexAt (eF xs ys) (rF f xs ys) (decide (xs.length < ys.length)) 0 (min xs.length ys.length) = b ∧
    ∀ (j : Nat) (x y : D), xs[j]? = some x → ys[j]? = some y → eqD x y = some (eF xs ys j) ∧ (eF xs ys j = false → f x y = some (rF f xs ys j))
  | [], ys, b, h => by
    cases h
    refine ⟨?_, fun j x y e => by simp at e⟩
    show Ob.lexAt _ _ _ 0 (min 0 ys.length) = _
    rw [Nat.zero_min]
    cases ys <;> rfl
  | x :: xs, [], b, h => by
    cases h
    exact ⟨rfl, fun j x y _ e => by simp at e⟩
  | x :: xs, y :: ys, b, h => by
    have sh1 : ∀ j, eF (x :: xs) (y :: ys) (j + 1) = eF xs ys j := fun j => by simp [eF]
    have sh2 : ∀ j, rF f (x :: xs) (y :: ys) (j + 1) = rF f xs ys j := fun j => by simp [rF]
    have e0 : eF (x :: xs) (y :: ys) 0 = (eqD x y).getD false := rfl
    have r0 : rF f (x :: xs) (y :: ys) 0 = (f x y).getD false := rfl
    have hmin : min (x :: xs).length (y :: ys).length = min xs.length ys.length + 1 := by simp [Nat.succ_min_succ]
    have hd : decide ((x :: xs).length < (y :: ys).length) = decide (xs.length < ys.length) := by simp
    have hs : Ob.lexAt (eF (x :: xs) (y :: ys)) (rF f (x :: xs) (y :: ys)) (decide (xs.length < ys.length)) 1 (min xs.length ys.length) = Ob.lexAt (eF xs ys) (rF f xs ys) (decide (xs.length < ys.length)) 0 (min xs.length ys.length) := by
      rw [← lex_shift (e := eF (x :: xs) (y :: ys)) (r := rF f (x :: xs) (y :: ys))]
      congr 1
    simp only [ltL] at h
    cases q1 : eqD x y with
    | none => rw [q1] at h; cases h
    | some t =>
      cases q2 : ltL f xs ys with
      | none => rw [q1, q2] at h; cases t <;> cases h
      | some r =>
        rw [q1, q2] at h
        obtain ⟨i1, i2⟩ := ltL_lex q2
        rw [hmin, hd, Ob.lexAt_succ, e0, q1, r0, hs, i1]
        refine ⟨?_, fun j x' y' ex ey => ?_⟩
        · cases t with
          | true => cases h; rfl
          | false =>
            have h : f x y = some b := h
            rw [h]; rfl
        · cases j with
          | zero =>
            simp at ex ey
            subst ex ey
            rw [e0, r0, q1]
            refine ⟨rfl, fun z => ?_⟩
            have z : t = false := z
            subst z
            have h : f x y = some b := h
            rw [h]; rfl
          | succ j =>
            rw [sh1, sh2]
            exact i2 j x' y' (by simpa using ex) (by simpa using ey)
theorem vals_at : ∀ {vs : List V} {us : List Value} {j : Nat} {u : Value}, Vals vs us → us[j]? = some u → ∃ v, vs[j]? = some v ∧ RelV v u
  | [], _, _, _, .nil, e => by simp at e
  | _ :: _, _, 0, _, .cons r _, e => by simp at e; subst e; exact ⟨_, rfl, r⟩
  | _ :: _, _, j + 1, _, .cons _ t, e => by
    simp at e
    obtain ⟨v, h1, h2⟩ := vals_at t e
    exact ⟨v, by simpa using h1, h2⟩
theorem eq_at (hK : X.K = Y.K) (I : Inv X pins σ H s) (gH : Same G H) {A : Around} {d e : D} {x y : V} {v u : Value} {b : Bool} (hu : A.units + 64 < cLine) (h1 : Rep Y G x d) (h2 : Rep Y G y e) (r1 : RelV x v) (r2 : RelV y u) (q : eqD d e = some b) : SeqAt.EqAt A s v u b := by
  obtain ⟨p, p', e1, e2, s1, s2, rfl⟩ := eqD_some q
  obtain ⟨as, a1⟩ := Dp.reads I p x v (h1.dp hK gH e1) r1
  obtain ⟨bs, a2⟩ := Dp.reads I p' y u (h2.dp hK gH e2) r2
  exact SeqAt.eqAt_reads p p' A s v u as bs a1 a2 (SeqAt.canLay_of_shaped s1) (SeqAt.canLay_of_shaped s2) (SeqAt.room_of_shaped s1 hu)
theorem lt_rc (hK : X.K = Y.K) (I : Inv X pins σ H s) (gH : Same G H) : ∀ (n : Nat) {A : Around} {d e : D} {x y : V} {v u : Value} {b : Bool}, A.units + n + 66 < cLine → Rep Y G x d → Rep Y G y e → RelV x v → RelV y u → ltD n d e = some b → Ob.RcOp .Lt A s v u b := by
  have base : ∀ {A : Around} {d e : D} {x y : V} {v u : Value} {b : Bool}, Rep Y G x d → Rep Y G y e → RelV x v → RelV y u → ltI d e = some b → Ob.RcOp .Lt A s v u b := fun {A d e x y v u b} h1 h2 r1 r2 q => by
    unfold ltI at q
    split at q
    · cases q
      cases h1; cases h2
      obtain ⟨t1, rfl⟩ := r1
      obtain ⟨t2, rfl⟩ := r2
      exact Ob.RcOp.lt_int _ _ _ _
    · cases q
  intro n
  induction n with
  | zero => intro A d e x y v u b hu h1 h2 r1 r2 q; exact base h1 h2 r1 r2 q
  | succ n ih =>
    intro A d e x y v u b hu h1 h2 r1 r2 q
    simp only [ltD] at q
    split at q
    · rename_i xs ys
      cases h1 with | tup g1 g2 =>
      cases h2 with | tup k1 k2 =>
      cases r1
      cases r2
      have g1 := Same.seqT gH g1
      have k1 := Same.seqT gH k1
      rw [← hK] at g1 k1
      obtain ⟨its, w1, p1, _⟩ := I.tuple g1
      obtain ⟨its2, w2, p2, _⟩ := I.tuple k1
      obtain ⟨h3, h4⟩ := ltL_lex q
      have l1 : its.toArray.size = xs.length := by rw [List.size_toArray, ← w1.length, g2.length]
      have l2 : its2.toArray.size = ys.length := by rw [List.size_toArray, ← w2.length, k2.length]
      have at_ : ∀ (j : Nat) (h1 : j < its.toArray.size) (h2 : j < its2.toArray.size), ∃ x y d e, RelV x its.toArray[j] ∧ RelV y its2.toArray[j] ∧ Rep Y G x d ∧ Rep Y G y e ∧ xs[j]? = some d ∧ ys[j]? = some e := fun j h1 h2 => by
        have e1 : its[j]? = some its.toArray[j] := by
          rw [List.getElem?_eq_getElem (by simpa using h1)]; simp
        have e2 : its2[j]? = some its2.toArray[j] := by
          rw [List.getElem?_eq_getElem (by simpa using h2)]; simp
        obtain ⟨x, f1, f2⟩ := vals_at w1 e1
        obtain ⟨y, f3, f4⟩ := vals_at w2 e2
        obtain ⟨d, f5, f6⟩ := g2.getV f1
        obtain ⟨e, f7, f8⟩ := k2.getV f3
        exact ⟨x, y, d, e, f2, f4, f6, f8, f5, f7⟩
      have := Ob.RcOp.tuples_lt (A := A) (e := eF xs ys) (r := rF (ltD n) xs ys) p1 p2 (by omega) (fun j h1 h2 => by
        obtain ⟨x, y, d, e, a1, a2, a3, a4, a5, a6⟩ := at_ j h1 h2
        exact eq_at hK I gH (by show A.units + 1 + 64 < cLine; omega) a3 a4 a1 a2 (h4 j d e a5 a6).1) fun j h1 h2 hz => by
        obtain ⟨x, y, d, e, a1, a2, a3, a4, a5, a6⟩ := at_ j h1 h2
        exact ih (by show A.units + 1 + n + 66 < cLine; omega) a3 a4 a1 a2 ((h4 j d e a5 a6).2 hz)
      rw [l1, l2, h3] at this
      exact this
    · exact base h1 h2 r1 r2 q
def rLtX (Y : Wd) : R2 := fun x y H Q => ∃ (G : Hp) (d e : D) (b : Bool), Same G H ∧ Rep Y G x d ∧ Rep Y G y e ∧ ltD 3 d e = some b ∧ Q (.bl b) H
theorem op_ltX (hK : X.K = Y.K) (hu : X.A.units + 69 < cLine) : OpR X (compareOp .Lt) (rLtX Y) := by
  intro pins s σ H x y v u Q I rx ry ⟨G, d, e, b, gH, h1, h2, h3, q⟩
  exact lt_rc hK I gH 3 hu h1 h2 rx ry h3 _ _ _ _ ⟨.bl b, H, I, rfl, q⟩
theorem p_lt : P2 Y W .lt (rLtX Y) := .mk fun G R H σ en x y ds p Q S hp e pq => by
  match ds, hp, e with
  | [d, d'], hp, e =>
    obtain ⟨k1, k2, _⟩ := hp
    have fin : ∀ {b : Bool}, ltD 3 d d' = some b → p = (.bl b, false) → Rep Y G x d → Rep Y G y d' → rLtX Y x y H Q := fun {b} h1 h2 h3 h4 => by
      subst h2
      exact ⟨G, d, d', b, S.gH, h3, h4, h1, fin_sh S pq (.bl _)⟩
    have nm : ∀ {v : V} {d : D}, Pk Y G H v d → (∀ xs, d ≠ .lst xs) → (∀ ks xs, d ≠ .dct ks xs) → (∀ c ns xs, d ≠ .obj c ns xs) → Rep Y G v d := fun h a b c => by
      rcases h with h | ⟨_, _, t⟩
      · exact h
      · cases t <;> first | exact absurd rfl (a _) | exact absurd rfl (b _ _) | exact absurd rfl (c _ _ _)
    cases d with
    | int i =>
      cases d' with
      | int j =>
        cases e
        exact fin rfl rfl (nm k1 (by simp) (by simp) (by simp)) (nm k2 (by simp) (by simp) (by simp))
      | _ => cases e
    | tup xs =>
      cases d' with
      | tup ys =>
        obtain ⟨b, e1, e2⟩ := oB_some (show oB (ltD 3 (.tup xs) (.tup ys)) = some p from e)
        exact fin e1 e2 (nm k1 (by simp) (by simp) (by simp)) (nm k2 (by simp) (by simp) (by simp))
      | _ => cases e
    | _ => cases e
  | [], hp, _ => exact hp.elim
  | [_], hp, _ => exact hp.2.elim
  | _ :: _ :: _ :: _, hp, _ => exact hp.2.2.elim
end
end L3

/-! L3M: list.count, list.index; raise; the exception that is looked at. -/
namespace L3
open PySem PySem.Spec PyProof.Rows L2
section
variable {X : Cx} {Y : Wd} {W : WX} {U : Ev}
/-! ### l.count(x), l.index(x) -/
def rCntD (K : PySem.W.Frag) : V → List V → Hp → VK → Prop := fun x xs H Q => ∃ (a : Addr) (y : V) (q : PyData) (qs : List PyData), x = V.ref a ∧ xs = [y] ∧ Dp K H (V.ref a) (.list qs) ∧ Dp K H y q ∧
  SeqAt.shaped (.list qs) = true ∧ SeqAt.shaped q = true ∧ Q (.int ((qs.countP fun z => PyData.eqv z q : Nat) : Int)) H
theorem mt_countD (hu : X.A.units + 65 < cLine) : MtR X "list.count" (rCntD X.K) := by
  intro pins s σ H x xs v us Q I rx rxs h
  obtain ⟨a, y, d, ds, rfl, rfl, hl, hy, sl, sd, q⟩ := h
  cases rx
  cases rxs with
  | cons ry rt =>
    rename_i uy ut
    cases rt
    obtain ⟨bs, r1⟩ := Dp.reads I d y uy hy ry
    have hxs : PyData.canLayAll0 ds = true := SeqAt.canLay_of_shaped sl
    have hroom : X.A.units + 1 + min (PyData.depthAll ds) d.depth < cLine := room_in_shaped sd hu
    cases hl with
    | lst hs ha =>
      obtain ⟨its, rv, ⟨⟨cls, dd, data, sls⟩, n, ho, hc, hdn, hdt⟩, hlen⟩ := I.list hs
      simp only at hc hdt
      subst hc hdt
      obtain ⟨as, h4⟩ := Dp.readsAll I ds _ its ha rv
      refine call_meets PySem.F.slot_list_count ⟨_, ho, rfl⟩ PySem.F.entry_list_count (PySem.F.args_list_count_2 _ _)
        (SeqAt.list_countAt a its.toArray n dd sls uy (fun u => PyData.eqv (SeqAt.readOf s.heap u) d)) ⟨ho, SeqAt.items_eqAt (vs := its.toArray) (show ReadsAll s.heap its.toArray.toList ds as from h4) r1 hxs (SeqAt.canLay_of_shaped sd) hroom, ?_⟩
      refine ⟨.int _, H, I.tok _, ⟨s.toks, ?_⟩, q⟩
      have e1 : (its.toArray.toList.countP fun u => PyData.eqv (SeqAt.readOf s.heap u) d) = ds.countP fun z => PyData.eqv z d := by
        rw [← SeqAt.readsAll_map ds its as hxs h4, List.countP_map]
        rfl
      rw [e1]
theorem idxP_some {q : PyData} : ∀ {qs : List PyData} {j : Nat}, idxP qs q = some j → ∃ z, qs[j]? = some z ∧ PyData.eqv z q = true ∧ ∀ (m : Nat) (z' : PyData), m < j → qs[m]? = some z' → PyData.eqv z' q = false
  | [], j, e => by cases e
  | z :: r, j, e => by
    simp only [idxP] at e
    split at e
    · rename_i h
      cases e
      exact ⟨z, rfl, h, fun m z' hm => absurd hm (Nat.not_lt_zero _)⟩
    · rename_i h
      cases h2 : idxP r q with
      | none => rw [h2] at e; cases e
      | some k =>
        rw [h2] at e
        cases e
        obtain ⟨z1, e1, e2, e3⟩ := idxP_some h2
        refine ⟨z1, by simpa using e1, e2, fun m z' hm hz => ?_⟩
        have hm : m < k + 1 := hm
        cases m with
        | zero => simp at hz; subst hz; simpa using h
        | succ m => exact e3 m z' (by omega) (by simpa using hz)
theorem mth_core {o : Op} {x' y' : E} {r : V → List V → Hp → VK → Prop} {σ : L2.St} {H : Hp} {Q : VK} (hk : o.keeps = false)
    (h : ∀ (G R H : Hp) (σ : L2.St) (en : En) (x y : V) (ds : List D) (p : D × Bool) (Q : VK), Sep Y G R H σ en → PkL Y G H [x, y] ds → o.run ds = some p → Pst Y W (okV Y) G R σ en (.ok p en) Q → r x [y] H Q)
    (h1 : rdE Y W U (.mth o x' y') σ H Q) : rdX Y W U x' σ H fun x H1 => tyV X.K "list" x H1 ∧ rdX Y W U y' σ H1 fun y H2 => r x [y] H2 Q := by
  obtain ⟨G, R, en, S, p⟩ := h1
  refine ⟨G, R, en, S, ?_⟩
  rw [evE] at p
  refine Pst.bind p fun av en1 v H1 G1 _ s1 k1 S1 o1 p1 => ?_
  split at p1
  · rename_i hat
    cases q : avD en1 av with
    | none => rw [q] at hat; cases hat
    | some d =>
      rw [q] at hat
      have hat : mtPre d = true := hat
      cases d with
      | lst ds =>
        obtain ⟨a, vs, rfl, g1, g2⟩ := (pk_of S1 o1 q).lst S1
        refine ⟨.inl ⟨rfl, vs, .inl (.inl g1)⟩, rd.mk S1 (Pst.bind p1 fun av2 en2 w H2 G2 _ s2 k2 S2 o2 p2 => ?_)⟩
        unfold opFin at p2
        rw [hk] at p2
        split at p2
        · exact p2.elim
        · rename_i ds e
          split at p2
          · rename_i qq e2
            exact h G2 R H2 σ en2 _ _ ds qq Q S2 (pkL_of S2 (vs := [.ref a, w]) (as := [av, av2]) ⟨Aok.mono (en := en1) (en' := en2) o1 s2, o2, trivial⟩ e) e2 p2
          · exact p2.elim
      | _ => cases hat
  · exact p1.elim
theorem cnt_sp (hK : X.K = Y.K) (G R H : Hp) (σ : L2.St) (en : En) (x y : V) (ds : List D) (p : D × Bool) (Q : VK) (S : Sep Y G R H σ en) (hp : PkL Y G H [x, y] ds) (e : Op.count.run ds = some p) (pq : Pst Y W (okV Y) G R σ en (.ok p en) Q) : rCntD X.K x [y] H Q := by
  match ds, hp, e with
  | [d, d'], hp, e =>
    obtain ⟨k1, k2, _⟩ := hp
    have e : (match toPy d, toPy d' with
      | some (.list qs), some q => if SeqAt.shaped (.list qs) && SeqAt.shaped q then some (D.int ((qs.countP fun z => PyData.eqv z q : Nat) : Int), false) else none
      | _, _ => none) = some p := e
    split at e
    · rename_i qs q e1 e2
      split at e
      · rename_i hs
        obtain ⟨h1, h2⟩ := Bool.and_eq_true_iff.mp hs
        cases e
        have dx := k1.dp hK S e1
        have ex : ∃ a, x = .ref a := by cases dx; exact ⟨_, rfl⟩
        obtain ⟨a, rfl⟩ := ex
        exact ⟨a, y, q, qs, rfl, rfl, dx, k2.dp hK S e2, h1, h2, fin_sh S pq (.int _)⟩
      · cases e
    · cases e
  | [], hp, _ => exact hp.elim
  | [_], hp, _ => exact hp.2.elim
  | _ :: _ :: _ :: _, hp, _ => exact hp.2.2.elim
theorem idx_sp (hK : X.K = Y.K) (G R H : Hp) (σ : L2.St) (en : En) (x y : V) (ds : List D) (p : D × Bool) (Q : VK) (S : Sep Y G R H σ en) (hp : PkL Y G H [x, y] ds) (e : Op.index.run ds = some p) (pq : Pst Y W (okV Y) G R σ en (.ok p en) Q) : rIndexD X.K x [y] H Q := by
  match ds, hp, e with
  | [d, d'], hp, e =>
    obtain ⟨k1, k2, _⟩ := hp
    have e : (match toPy d, toPy d' with
      | some (.list qs), some q => if SeqAt.shaped (.list qs) && SeqAt.shaped q then oI ((idxP qs q).map fun n => (n : Int)) else none
      | _, _ => none) = some p := e
    split at e
    · rename_i qs q e1 e2
      split at e
      · rename_i hs
        obtain ⟨h1, h2⟩ := Bool.and_eq_true_iff.mp hs
        cases q3 : idxP qs q with
        | none => rw [q3] at e; cases e
        | some j =>
          rw [q3] at e
          cases e
          obtain ⟨z, z1, z2, z3⟩ := idxP_some q3
          have dx := k1.dp hK S e1
          have ex : ∃ a, x = .ref a := by cases dx; exact ⟨_, rfl⟩
          obtain ⟨a, rfl⟩ := ex
          exact ⟨a, y, q, qs, j, z, rfl, rfl, dx, k2.dp hK S e2, h1, h2, z1, z2, z3, fin_sh S pq (.int _)⟩
      · cases e
    · cases e
  | [], hp, _ => exact hp.elim
  | [_], hp, _ => exact hp.2.elim
  | _ :: _ :: _ :: _, hp, _ => exact hp.2.2.elim
variable {o e a : Expr} {x' y' a' : E} {p apos pos cpos : Pos} {x : Str}
theorem pa_one {t : TE} (h : PE X e t) (hs : starEach [e] X.env = (false, eval e X.env) :: starEach [] X.env := by rfl) : PA X [e] (fun σ H Q => t σ H fun v H1 => Q [v] H1) := pa_cons h pa_nil hs
theorem s_count (hK : X.K = Y.K) (hu : X.A.units + 65 < cLine) (ho : PE X o (rdX Y W U x')) (ha : PE X e (rdX Y W U y')) (hbase : attributeBase o "count" X.env (eval o X.env) = eval o X.env := by rfl) (hline : (apos.endLine == cpos.line) = true := by rfl)
    (hs : starEach [e] X.env = (false, eval e X.env) :: starEach [] X.env := by rfl) : PE X (.Call (.Attribute o "count" apos) [e] [] cpos) (rdE Y W U (.mth .count x' y')) :=
  (pe_bm PySem.F.plainAttrs_list PySem.F.slot_list_count PySem.F.type_list_count (mt_countD hu) ho (pa_one ha hs) hbase (by rw [hs]; rfl) hline hs rfl).imp fun _ _ _ q => mth_core (X := X) rfl (cnt_sp hK) q
theorem s_index (hK : X.K = Y.K) (hu : X.A.units + 65 < cLine) (ho : PE X o (rdX Y W U x')) (ha : PE X e (rdX Y W U y')) (hbase : attributeBase o "index" X.env (eval o X.env) = eval o X.env := by rfl) (hline : (apos.endLine == cpos.line) = true := by rfl)
    (hs : starEach [e] X.env = (false, eval e X.env) :: starEach [] X.env := by rfl) : PE X (.Call (.Attribute o "index" apos) [e] [] cpos) (rdE Y W U (.mth .index x' y')) :=
  (pe_bm PySem.F.plainAttrs_list PySem.F.slot_list_index PySem.F.type_list_index (mt_indexD hu) ho (pa_one ha hs) hbase (by rw [hs]; rfl) hline hs rfl).imp fun _ _ _ q => mth_core (X := X) rfl (idx_sp hK) q
/-! ### raise C(), raise C(e) -/
theorem pmk_own0 {C : Addr} {bmB : List Value} {B newId initId : String} (F : ExcBaseFacts B newId initId bmB) (q : PySem.W.excIn X.K C bmB newId = true) (gC : X.mg x = some (.ref C)) (kC : PySem.W.keepIn X.K (.ref C) = true) (r : Raises X (.ref C)) (hg : Gl X x) (hdb : (x == ("__debug__" : Str)) = false := by decide) :
    PMk X (.Call (.Name x p) [] [] pos) (fun σ H Q => Q (.ref C) none H) := by
  intro pins s σ H Q I h
  refine wpAny_Call_Name_kw (ld_glob I hg gC ?_ hdb)
  refine PySem.W.callWith_K0 I.kIn kC ?_
  show wpAny _ _ (call (.ref C) []) _ _ _
  obtain ⟨bm, N, nm, qn, bs, hdct, sn, sub, ab, col, dd, k0, k1, k2, k3, k5, mN, hC, hN, hni, T⟩ := exc_obj I.kIn q
  refine wpAny_call_exc_subT F T hC hN hni (fun h' e hm => ?_) (Nat.zero_le _)
  exact mk_of I hm r h (I.hok.gone hm.new)
/-- an own exception class without own __init__ -/
structure Exc0 (X : Cx) (Y : Wd) (x : Str) (c : Nat) : Prop where
  at_ : X.mg x = some (.ref (Y.ca c))
  q : PySem.W.excIn X.K (Y.ca c) [.type "ValueError", .type "Exception", .type "BaseException", .type "object"] "ValueError.__new__" = true
  k : PySem.W.keepIn X.K (.ref (Y.ca c)) = true
  b : PySem.W.subIn X.K (.ref (Y.ca c)) (.type "BaseException") = some true
  t : PySem.W.typeIn X.K (.ref (Y.ca c)) = some (.type "type")
  xk : Y.xk c
theorem st_rse0 {c : Nat} (hc : X.calm = true) (tk : Takes X W) (F : Exc0 X Y x c) (hg : Gl X x := by rfl) (hdb : (x == ("__debug__" : Str)) = false := by decide) : PS X (.Raise (some (.Call (.Name x p) [] [] pos)) none cpos) (rdS Y W U (.rse c [] .nil)) :=
  (ps_raise hc tk (pmk_own0 PySem.F.excBase_ValueError F.q F.at_ F.k (raises_own F.b F.t) hg hdb)).imp fun D σ H ⟨G, R, en, S, q⟩ => by
    rw [evS, evA] at q
    exact q _ _ σ H G (Same.refl _) (Keep.refl _ _) S ⟨F.xk, rfl, .inl ⟨rfl, rfl, rfl⟩⟩
/-- what an __init__(self, at): self.f = at keeps -/
def spI (C : Addr) (f : Str) : Sp := fun vs H Q E => ∃ (a : Addr) (y : V), vs = [.ref a, y] ∧ H a = some (exo a C none) ∧ ∀ dx, H dx = none → dx ≠ a → Q .non (upd (upd H dx (exd dx [(f, y)])) a (exo a C (some dx)))
structure Exc1 (X : Cx) (Y : Wd) (x : Str) (c : Nat) (f : Str) (k : Nat) (fI : Addr) (fd : FuncData) (ps : List Str) : Prop where
  at_ : X.mg x = some (.ref (Y.ca c))
  T : OexC X.K (Y.ca c)
  iC : PySem.W.findIn X.K (.ref (Y.ca c)) "__init__" = some (some (.ref fI))
  tI : PySem.W.typeIn X.K (.ref fI) = some (.type "function")
  F : FnOk X.prog X.w X.K X.mg X.base (L2.CX X.prog X.w) k fI fd ps (spI (Y.ca c) f)
  hb : Binds X.K fd ps []
  xk : Y.xk c
theorem st_rse1 {c k : Nat} {f : Str} {fI : Addr} {fd : FuncData} {ps : List Str} (hc : X.calm = true) (tk : Takes X W) (F : Exc1 X Y x c f k fI fd ps) (hr : Room (k + 1) X.A) (ha : PE X e (rdX Y W U a')) (hm : ∀ i, a' ≠ .pk i := by intro i z; cases z) (hg : Gl X x := by rfl) (hdb : (x == ("__debug__" : Str)) = false := by decide)
    (hs : starEach [e] X.env = (false, eval e X.env) :: starEach [] X.env := by rfl) : PS X (.Raise (some (.Call (.Name x p) [e] [] pos)) none cpos) (rdS Y W U (.rse c [f] (.cons a' .nil))) :=
  (ps_raise hc tk (pmk_oex F.T F.iC F.tI F.F hr F.hb .nil (passes_call LamX.takes0 (fun _ _ _ _ z => z)) hg F.at_ (pa_one ha hs) hdb hs rfl)).imp fun D σ H ⟨G, R, en, S, q⟩ => by
    refine ⟨G, R, en, S, ?_⟩
    rw [evS, evA_cons, Rs.bind_assoc] at q
    refine PstS.bindE q fun av en1 v H1 G1 _ s1 k1 S1 o1 q1 => ?_
    rw [evA] at q1
    refine ⟨(by decide : 1 ≤ 1000), fun a na => ?_⟩
    refine ⟨a, v, rfl, upd_same, fun dx nd hda => ?_⟩
    have ndx : H1 dx = none := by rw [upd_ne hda] at nd; exact nd
    refine ⟨rfl, dx, [(f, v)], upd_same, by rw [upd_ne hda]; exact upd_same, ndx, ?_⟩
    have eH : upd (del (upd (upd (upd H1 a (exo a (Y.ca c) none)) dx (exd dx [(f, v)])) a (exo a (Y.ca c) (some dx))) a) dx (.xd [(f, v)]) = upd H1 dx (.xd [(f, v)]) := by
      funext b
      by_cases hb : b = dx
      · subst hb; rw [upd_same, upd_same]
      · rw [upd_ne hb, upd_ne hb]
        by_cases hba : b = a
        · subst hba; rw [del_same, na]
        · rw [del_ne hba, upd_ne hba, upd_ne hb, upd_ne hba]
    rw [eH]
    cases av with
    | p i => exact q1.elim
    | v d =>
      have r : Rep Y G1 v d := o1
      have q1 : PstS Y W G1 R σ en1 (.er ⟨c, [f], [d]⟩ en1) D := q1
      have sg : Same G1 (upd G1 dx (.xd [(f, v)])) := same_new (S1.gnone ndx)
      exact q1 _ _ σ _ _ sg (Keep.refl _ _) (S1.newG ndx) ⟨F.xk, rfl, .inr ⟨dx, [(f, v)], rfl, upd_same, rfl, .cons (r.mono sg) .nil⟩⟩
/-! ### the exception that is looked at -/
/-- the world of an except suite: a the exception, cls its class, dd its dict -/
abbrev Wd.su (Y : Wd) (a : Addr) (cls : Value) (dd : Option Addr) : Wd := { Y with ex := fun a' c d => a' = a ∧ Y.xk c ∧ cls = .ref (Y.ca c) ∧ d = dd }
/-- isinstance(e, c), e the exception that the suite holds, with or without a dict -/
def rIsX (K : PySem.W.Frag) (D a : Addr) (dd : Option Addr) : List V → Hp → VK → Prop := fun xs H Q => ∃ (c : V) (cv : Value) (b : Bool), xs = [.ref a, c] ∧ (∀ u, RelV c u → u = cv) ∧ PySem.W.kitOne K (.ref D) cv = some b ∧ (∀ da, dd = some da → ∃ fs, H da = some (.xd fs)) ∧ Q (.bl b) H
theorem call_isX {a D : Addr} {oe : Obj} {pn : List (Addr × Obj)} {dd : Option Addr} (C : ExcC X.K D) (hz : Zc (.ref D) dd oe) (hf : ∃ vs, oe.data = .fields vs) : CallR (X.suite a ((a, oe) :: pn)) (.builtin "isinstance") (rIsX X.K D a dd) := by
  intro pins s σ H xs us Q I r h
  obtain ⟨c, cv, b, rfl, hcv, e, hd, q⟩ := h
  cases r with
  | cons rx rr =>
    cases rr with
    | cons rt rr =>
      cases rr
      cases rx
      have ec := hcv _ rt
      subst ec
      obtain ⟨hget, _⟩ := I.pin (a, oe) (List.mem_append.mpr (.inl List.mem_cons_self))
      obtain ⟨vs, hv⟩ := hf
      have J : ∃ od, PySem.W.InstAt s.heap a oe D od := by
        cases dd with
        | none =>
          obtain ⟨oc, od, oda, osl⟩ := oe
          obtain ⟨h1, h2⟩ := hz
          dsimp only at h1 h2 hv
          subst h1 h2 hv
          exact ⟨none, hget, rfl, rfl, trivial⟩
        | some da =>
          obtain ⟨fs, hx⟩ := hd da rfl
          have hx : ObjOk X.prog X.w H s.heap da (.xd fs) := I.hok da _ hx
          obtain ⟨mA, hns, hr⟩ := hx
          obtain ⟨od, ho, hl⟩ := lookIn_ns hns
          exact ⟨some od, hget, hz.1, by unfold PySem.W.notCls; rw [hv] <;> rfl, by rw [hz.2]; exact ho⟩
      obtain ⟨od, J⟩ := J
      have hcl : (PySem.W.clsIn X.K D).isSome = true := by
        obtain ⟨cd, hc, _⟩ := PySem.W.any_some C.hd
        rw [hc]; rfl
      exact PySem.W.kia_one (PySem.W.kitx_exc hcl C.hg C.hk C.hs C.ha C.hn C.ht C.hm) I.kIn J e (fun z => nomatch z) fun tk => ⟨.bl b, H, I.kept (t' := tk) fun _ _ z => z, rfl, q⟩
/-- what the classes of the program's exceptions say -/
structure XcC (Y : Wd) (K : PySem.W.Frag) : Prop where
  i : ∀ c, Y.xk c → ExcC K (Y.ca c)
  x : ∀ c, Y.xk c → XfC K (Y.ca c)
variable {a : Addr} {cls : Value} {dd : Option Addr} {oe : Obj} {pn : List (Addr × Obj)}
theorem s_isx {cs : List Nat} {cv : V} {u : Value} {tc : Expr} (I : XcC Y X.K) (hz : Zc cls dd oe) (hf : ∃ vs, oe.data = .fields vs) (hm : X.mg "isinstance" = none) (hcv : ∀ w, RelV cv w → w = u) (hk : ∀ c, Y.xk c → PySem.W.kitOne X.K (.ref (Y.ca c)) u = some (cs.contains c))
    (htc : PE (X.suite a ((a, oe) :: pn)) tc (tC cv)) (ha : PE (X.suite a ((a, oe) :: pn)) e (rdX (Y.su a cls dd) W U a')) (hg : Gl X "isinstance" := by rfl)
    (he : starEach (e :: [tc]) X.env = (false, eval e X.env) :: starEach [tc] X.env := by rfl) (he2 : starEach (tc :: []) X.env = (false, eval tc X.env) :: starEach [] X.env := by rfl) (hpl : (backTo pos (starEach [tc] X.env)).any (·.1) = false := by rfl) :
    PE (X.suite a ((a, oe) :: pn)) (.Call (.Name "isinstance" p) [e, tc] [] pos) (rdE (Y.su a cls dd) W U (.op (.isx cs) (.cons a' .nil))) := by
  have hcall : CallR (X.suite a ((a, oe) :: pn)) (.builtin "isinstance") (fun xs H Q => ∃ c, Y.xk c ∧ cls = .ref (Y.ca c) ∧ rIsX X.K (Y.ca c) a dd xs H Q) := fun pins s σ H xs us Q J r ⟨c, h1, h2, h3⟩ => by
    subst h2
    exact call_isX (I.i c h1) hz hf pins s σ H xs us Q J r h3
  refine (pe_callB (X := X.suite a ((a, oe) :: pn)) hcall hg hm (by decide +kernel) (pa_cons (X := X.suite a ((a, oe) :: pn)) ha (pa_cons (X := X.suite a ((a, oe) :: pn)) htc pa_nil he2) he) (by decide) (by decide) he hpl).imp fun σ H Q ⟨G, R, en, S, p⟩ => ⟨G, R, en, S, ?_⟩
  rw [evE_op1] at p
  refine Pst.bind p fun y en1 v H1 G1 _ s1 k1 S1 o1 p1 => ?_
  unfold opFin at p1
  split at p1
  · exact p1.elim
  · rename_i ds e1
    obtain ⟨d, e2, rfl⟩ := avDs_1 (show avDs en1 [y] = some ds from e1)
    have pk := pk_of S1 o1 e2
    split at p1
    · rename_i q e3
      obtain ⟨d', e4, e5⟩ := a1_some (show a1 (isX cs) [d] = some q from e3)
      cases e4
      have rp : Rep (Y.su a cls dd) G1 v d := by
        rcases pk with h | ⟨_, _, t⟩
        · exact h
        · cases t <;> cases e5
      unfold isX at e5
      split at e5
      · rename_i c ns xs
        cases e5
        cases rp with
        | exc0 h =>
          obtain ⟨rfl, h1, h2, h3⟩ := h
          exact ⟨c, h1, h2, cv, u, _, rfl, hcv, hk c h1, (fun da z => by rw [← h3] at z; cases z), fin_sh S1 p1 (.bl _)⟩
        | exc1 h g1 g2 g3 =>
          obtain ⟨rfl, h1, h2, h3⟩ := h
          exact ⟨c, h1, h2, cv, u, _, rfl, hcv, hk c h1, (fun da z => by rw [← h3] at z; cases z; exact ⟨_, S1.gH _ _ g1⟩), fin_sh S1 p1 (.bl _)⟩
      · cases e5
    · exact p1.elim
theorem s_fldx {f : Str} (hcl : ∃ c, Y.xk c ∧ cls = .ref (Y.ca c)) (I : XcC Y X.K) (hno : ∀ c, Y.xk c → PySem.W.findIn X.K (.ref (Y.ca c)) f = some none) (hz : Zc cls dd oe) (hf : ∃ vs, oe.data = .fields vs) (ha : PE (X.suite a ((a, oe) :: pn)) e (rdX (Y.su a cls dd) W U a'))
    (hb : attributeBase e f X.env (eval e X.env) = eval e X.env := by rfl) : PE (X.suite a ((a, oe) :: pn)) (.Attribute e f pos) (rdE (Y.su a cls dd) W U (.op (.fldx f) (.cons a' .nil))) := by
  obtain ⟨c0, hx0, hc0⟩ := hcl
  refine (pe_xf (I.x c0 hx0) (hno c0 hx0) hz hf ha hb).imp fun σ H Q ⟨G, R, en, S, p⟩ => ⟨G, R, en, S, ?_⟩
  rw [evE_op1] at p
  refine Pst.bind p fun y en1 v H1 G1 _ s1 k1 S1 o1 p1 => ?_
  unfold opFin at p1
  split at p1
  · exact p1.elim
  · rename_i ds e1
    obtain ⟨d, e2, rfl⟩ := avDs_1 (show avDs en1 [y] = some ds from e1)
    have pk := pk_of S1 o1 e2
    split at p1
    · rename_i q e3
      obtain ⟨d', e4, e5⟩ := a1_some (show a1 (fldX f) [d] = some q from e3)
      cases e4
      have rp : Rep (Y.su a cls dd) G1 v d := by
        rcases pk with h | ⟨_, _, t⟩
        · exact h
        · cases t <;> cases e5
      unfold fldX at e5
      split at e5
      · rename_i c ns xs
        split at e5
        · rename_i d2 e6
          cases e5
          cases rp with
          | exc0 h => simp at e6
          | exc1 h g1 g2 g3 =>
            obtain ⟨rfl, h1, h2, h3⟩ := h
            obtain ⟨w, h4, h5⟩ := lookup_rep g2 g3 e6
            exact ⟨rfl, hc0, _, _, w, h3.symm, S1.gH _ _ g1, h4, fin_sh S1 p1 h5⟩
        · cases e5
      · cases e5
    · exact p1.elim
end
end L3

/-! L3N: a lambda handed to a def that calls it within a try. -/
namespace L3
open PySem PySem.Spec PyProof.Rows L2
section
variable {Y : Wd} {G R H : Hp} {σ : L2.St} {en : En} {a : Addr} {cls : Value} {dd : Option Addr}
/-! ### into and out of an except suite's world -/
mutual
theorem Rep.su (hx : ∀ a c d, ¬ Y.ex a c d) : ∀ {d : D} {v : V}, Rep Y G v d → Rep (Y.su a cls dd) G v d
  | .non, _, h => by cases h; exact .non
  | .bl b, _, h => by cases h; exact .bl b
  | .int i, _, h => by cases h; exact .int i
  | .str z, _, h => by cases h; exact .str z
  | .tup ds, _, h => by cases h with | tup h1 h2 => exact .tup h1 (RepL.su hx h2)
  | .lst ds, _, h => by cases h with | lst h1 h2 => exact .lst h1 (RepL.su hx h2)
  | .fls ds, _, h => by cases h with | fls h1 h2 => exact .fls h1 (RepL.su hx h2)
  | .dct ks ds, _, h => by cases h with | dct h1 h2 h3 => exact .dct h1 h2 (RepL.su hx h3)
  | .obj c ns ds, _, h => by cases h with | obj h0 h1 h2 h3 h4 => exact .obj (Y := Y.su a cls dd) h0 h1 h2 h3 (RepL.su hx h4)
  | .set _, _, h => by cases h with | fnv h => exact .fnv (Y := Y.su a cls dd) h
  | .exc _ _ _, _, h => by
    cases h with
    | exc0 h => exact absurd h (hx _ _ _)
    | exc1 h _ _ _ => exact absurd h (hx _ _ _)
  | .thk _ _, _, h => by cases h with | thk h => exact .thk (Y := Y.su a cls dd) h
theorem RepL.su (hx : ∀ a c d, ¬ Y.ex a c d) : ∀ {ds : List D} {vs : List V}, RepL Y G vs ds → RepL (Y.su a cls dd) G vs ds
  | [], _, h => by cases h; exact .nil
  | d :: ds, _, h => by cases h with | cons h1 h2 => exact .cons (Rep.su hx h1) (RepL.su hx h2)
end
mutual
theorem Rep.unsu : ∀ {d : D} {v : V}, noX d = true → Rep (Y.su a cls dd) G v d → Rep Y G v d
  | .non, _, _, h => by cases h; exact .non
  | .bl b, _, _, h => by cases h; exact .bl b
  | .int i, _, _, h => by cases h; exact .int i
  | .str z, _, _, h => by cases h; exact .str z
  | .tup ds, _, n, h => by cases h with | tup h1 h2 => exact .tup h1 (RepL.unsu n h2)
  | .lst ds, _, n, h => by cases h with | lst h1 h2 => exact .lst h1 (RepL.unsu n h2)
  | .fls ds, _, n, h => by cases h with | fls h1 h2 => exact .fls h1 (RepL.unsu n h2)
  | .dct ks ds, _, n, h => by cases h with | dct h1 h2 h3 => exact .dct h1 h2 (RepL.unsu n h3)
  | .obj c ns ds, _, n, h => by cases h with | obj h0 h1 h2 h3 h4 => exact .obj (Y := Y) h0 h1 h2 h3 (RepL.unsu n h4)
  | .set _, _, _, h => by cases h with | fnv h => exact .fnv (Y := Y) h
  | .exc _ _ _, _, n, _ => by cases n
  | .thk _ _, _, _, h => by cases h with | thk h => exact .thk (Y := Y) h
theorem RepL.unsu : ∀ {ds : List D} {vs : List V}, noXs ds = true → RepL (Y.su a cls dd) G vs ds → RepL Y G vs ds
  | [], _, _, h => by cases h; exact .nil
  | d :: ds, _, n, h => by
    cases h with | cons h1 h2 =>
      obtain ⟨n1, n2⟩ := Bool.and_eq_true_iff.mp (show (noX d && noXs ds) = true from n)
      exact .cons (Rep.unsu n1 h1) (RepL.unsu n2 h2)
end
theorem Top.unsu {b : Addr} {d : D} (n : noX d = true) (t : Top (Y.su a cls dd) G H b d) : Top Y G H b d := by
  cases t with
  | lst h q => exact .lst h (RepL.unsu n q)
  | dct h k q => exact .dct h k (RepL.unsu n q)
  | obj h0 h x k q => exact .obj (Y := Y) h0 h x k (RepL.unsu n q)
theorem noX_at (h : en.all noXc = true) {i : Nat} {ow : Ow} {d : D} (e : en[i]? = some (some (ow, d))) : noX d = true := List.all_eq_true.mp h _ (List.mem_of_getElem? e)
theorem Sep.unsu (S : Sep (Y.su a cls dd) G R H σ en) (h : en.all noXc = true) : Sep Y G R H σ en :=
  ⟨S.gH, S.rH, S.gr, S.len, fun i ow d e k => by
    obtain ⟨v, h1, h2⟩ := S.sh i ow d e k
    exact ⟨v, h1, h2.unsu (noX_at h e)⟩, fun i ow d e k => by
    obtain ⟨b, h1, h2⟩ := S.own i ow d e k
    exact ⟨b, h1, h2.g, h2.r, h2.t.unsu (noX_at h e)⟩, S.apart, ⟨S.tb.t, S.tb.g, S.tb.r⟩⟩
/-- nothing in the slots -/
theorem Sep.forget (S : Sep Y G R H σ en) : Sep Y G R H [] [] := S.agree rfl fun i x e => by simp at e
theorem Vok.forget {v : V} {d : D} {own : Bool} (o : Vok Y G R H σ en v d own) : Vok Y G R H [] [] v d own := by
  cases own with
  | false => exact o
  | true =>
    obtain ⟨b, e, w, _⟩ := o
    exact ⟨b, e, w, fun i h => by cases h⟩
/-- shared things in the slots -/
theorem Sep.mkSh (S : Sep Y G R H [] []) (l : σ.length = en.length) (h : ∀ (i : Nat) (ow : Ow) (d : D), en[i]? = some (some (ow, d)) → ow = .sh ∧ ∃ v, σ[i]? = some (some v) ∧ Rep Y G v d) : Sep Y G R H σ en := by
  have no : ∀ i : Nat, isOwnC en[i]? = true → False := fun i e => by
    obtain ⟨ow, d, e1, e2⟩ := isOwnC_get e
    obtain ⟨rfl, _⟩ := h i ow d e1
    cases e2
  exact ⟨S.gH, S.rH, S.gr, l, fun i ow d e _ => (h i ow d e).2, fun i ow d e k => by
    obtain ⟨rfl, _⟩ := h i ow d e
    exact absurd k (by decide), fun i j b e => (no i e).elim, S.tb⟩
theorem Sep.suIn (hx : ∀ a c d, ¬ Y.ex a c d) (S : Sep Y G R H [] []) : Sep (Y.su a cls dd) G R H [] [] :=
  ⟨S.gH, S.rH, S.gr, rfl, fun i ow d e => by simp at e, fun i ow d e => by simp at e, fun i j b e => absurd e (by simp [isOwnC]), ⟨S.tb.t, S.tb.g, S.tb.r⟩⟩
/-! ### the promise of a def that calls what it got -/
def PW (Y : Wd) (G R : Hp) (r : CRes) (Q : VK) : Prop := match r with
  | .ok d own _ => ∀ v H' G', Same G G' → Sep Y G' R H' [] [] → Vok Y G' R H' [] [] v d own → Q v H'
  | _ => False
def TTw (Y : Wd) (f : List (Bool × D) → CRes) : (XK → Hp → VK → Prop) → Hp → VK → Prop := fun tl H Q =>
  tl (fun cls dd H1 => ∃ G1 R1 x, Sep Y G1 R1 H1 [] [] ∧ ExOk Y G1 x cls dd ∧ PW Y G1 R1 (f [(false, .thk false (.exc x.c x.ns x.xs))]) Q) H
    (fun v H1 => ∃ G1 R1 d, Sep Y G1 R1 H1 [] [] ∧ Rep Y G1 v d ∧ PW Y G1 R1 (f [(false, .thk true d)]) Q)
end
section
variable {X : Cx} {Y : Wd} {W : WX} {U : Ev}
abbrev wE (E : XK) : WX := fun cls d _ H => E cls d H
theorem lam_red {f : Nat} {e' : E} {σ : L2.St} {H : Hp} {Q : VK} (h : rdE Y W U (.lam f e') σ H Q) : LamX.tLam Y.T (TTw Y (U.C f)) (fun E => rdE Y (wE E) U e') σ H Q := by
  obtain ⟨G, R, en, S, p⟩ := h
  refine ⟨S.tb.t, fun H1 eN T1 => ?_⟩
  have S1 : Sep Y G R H1 σ en := ⟨fun b o e => eN b o (S.gH b o e) fun ps z => S.tb.g b ps (by rw [e, z]), fun b o e => eN b o (S.rH b o e) fun ps z => S.tb.r b ps (by rw [e, z]), S.gr, S.len, S.sh, fun i ow d e k => by
      obtain ⟨b, h1, h2⟩ := S.own i ow d e k
      obtain ⟨o, h3, m⟩ := h2.t.at
      exact ⟨b, h1, h2.g, h2.r, h2.t.keep (Same.refl _) (by rw [h3]; exact eN b o h3 (notT_mut m))⟩, S.apart, ⟨T1, S.tb.g, S.tb.r⟩⟩
  have fin : ∀ {en' : En} {H2 G2 : Hp} {args : List (Bool × D)}, Same G G2 → Keep σ en σ en' → Sep Y G2 R H2 σ en' →
      Pst Y W (okV Y) G R σ en (match U.C f args with | .ok d own _ => .ok (d, own) en' | _ => .bad) Q → PW Y G2 (restR R H2 σ en' [] []) (U.C f args) Q := fun {en' H2 G2 args} s k S2 p => by
    have P : PassOk Y G2 σ en' [] [] [] := (pass_ok S2 (ms := []) (us := []) (avs := []) (vs := []) rfl trivial).1
    cases q : U.C f args with
    | ok d own outs =>
      rw [q] at p
      intro v H3 G3 s3 S3 o3
      have B : BackOk en' en' [] [] [] := back_ok rfl fun k k' i d d' h => by simp at h
      obtain ⟨h1, h2, h3⟩ := back_sep S2 P s3 S3 B
      exact p v H3 G3 (s.trans s3) (k.trans h2) h1 (h3 v d own o3)
    | er x outs => rw [q] at p; exact p.elim
    | bad => rw [q] at p; exact p.elim
  refine ⟨G, R, en, S1, ?_⟩
  rw [evE] at p
  cases q : evE U.C U.md e' en with
  | bad => rw [q] at p; exact p.elim
  | ok r en' =>
    rw [q] at p
    intro v H2 G2 s2 k2 S2 o2
    obtain ⟨G3, s3, S3, r3⟩ := Vok.share S2 (show Vok Y G2 R H2 σ en' v r.1 r.2 from o2)
    have P : PassOk Y G3 σ en' [] [] [] := (pass_ok S3 (ms := []) (us := []) (avs := []) (vs := []) rfl trivial).1
    exact ⟨G3, _, r.1, pass_sep S3 P, r3, fin (s2.trans s3) k2 S3 p⟩
  | er x en' =>
    rw [q] at p
    intro cls dd H2 G2 s2 k2 S2 o2
    have P : PassOk Y G2 σ en' [] [] [] := (pass_ok S2 (ms := []) (us := []) (avs := []) (vs := []) rfl trivial).1
    exact ⟨G2, _, x, pass_sep S2 P, o2, fin s2 k2 S2 p⟩
/-- f(lambda: body) -/
theorem s_lam {f : Nat} {e' : E} {x a : Str} {g c P : Addr} {k : Nat} {pg : Arguments} {bg : List Stmt} {sg : Scope} {dV kV doc pm cdv ct oc : Value} {an od : Option Addr} {osl : Array (Option Value)} {Ng : List Str}
    {params : Arguments} {body : Expr} {scope : Scope} {p lpos pos : Pos} (hg : Gl X x) (hm : X.mg x = some (.ref g)) (hk : PySem.W.keepIn X.K (.ref g) = true)
    (lk : X.K.lookup g = some ⟨oc, od, .func (PySem.W.fnOf x x pg bg sg dV kV doc pm an cdv ct), osl⟩) (hcg : PySem.W.codeIn X.K cdv x = true) (hb : L2.Binds X.K (PySem.W.fnOf x x pg bg sg dV kV doc pm an cdv ct) [a] []) (Sg : FnScope Ng [a] sg) (hNg : Ng[0]? = some a) (hva : Vis sg a)
    (hG : (∀ args, U.C f args = .bad) ∨ LamX.GivesTo X Ng x sg g cdv bg a (X.env.qual ++ "<lambda>") (TTw Y (U.C f)))
    (TB : LamX.TabB X.base X.mg c P) (hcode : X.env.code = .ref c) (hmT : (P, X.env.qual ++ "<lambda>") ∈ Y.T) (hu : ∀ p ∈ Y.T, p.1 = P → p.2 = X.env.qual ++ "<lambda>") (hr : Room (k + 2) X.A) (L : LamX.LamS X.env.scope scope) (hdef : defaultsOf params X.env = ([], []))
    (hbind : ∀ (q : Str) (cl : List (Str × Addr)) (pm cv ctv : Value), bindArgs (PySem.W.kla_fn "<lambda>" q params body scope cl pm cv ctv) ⟨[], []⟩ = pure [])
    (hbody : ∀ (A : Around) (outer : List Env) (s : Shared) (H : Hp) (E : XK) (f c' : Addr), Room k (A.deeper (LamX.lamEnv X scope s.heap.objs.size f c')) → PE (LamX.lamCx X A outer s H E scope f c') body (rdE Y (wE E) U e'))
    (hdb : (x == ("__debug__" : Str)) = false := by decide) (hd : (a == ("__debug__" : Str)) = false := by decide) (hcd : (a == ("__classdict__" : Str)) = false := by decide) :
    PE X (.Call (.Name x p) [.Lambda params body scope lpos] [] pos) (rdE Y W U (.lam f e')) := by
  rcases hG with hb0 | hG
  · refine ⟨fun pins s σ H Q I h => ?_⟩
    obtain ⟨G, R, en, S, p⟩ := h
    rw [evE] at p
    simp only [hb0] at p
    split at p <;> exact p.elim
  · exact (LamX.pe_lamcall hg hm hk lk hcg hb Sg hNg hva hG TB hcode hmT hu hr L hdef hbind hbody hdb hd hcd).imp fun _ _ _ q => lam_red q
/-! ### .. and the def -/
theorem PW.st {G R : Hp} {σ : L2.St} {en : En} {r : Rs Fl} {np : Nat} {Q : VK} (h : PW Y G R (resOf np r) Q) : PstS Y W0 G R σ en r { nx := fun _ H' => Q .non H', rt := Q } := by
  cases r with
  | ok fl en' =>
    intro σ' H' G' s k S
    cases fl with
    | nx => exact h .non H' G' s S.forget .non
    | br => exact h.elim
    | ct => exact h.elim
    | rt d own => exact fun v o => h v H' G' s S.forget o.forget
  | er x en' => exact h.elim
  | bad => exact h.elim
abbrev wZ (X : Cx) (Ng : List Str) (x : Str) (sg : Scope) (g : Addr) (cdg : Value) (s : Shared) (H : Hp) : Cx := (cxOf C8.CX0 X.prog X.w X.K X.mg X.base Ng x sg g cdg X.A X.stack s H C8.E0).nox
theorem evSs_consU (w : Nat) (C : Nat → List (Bool × D) → CRes) (md : Nat → List Bool) (s : S) (ss : Ss) (en : En) : evSs w C md (.cons s ss) en = (evS w C md s en).bind fun fl en => match fl with
    | .nx => evSs w C md ss en | .br => .ok .br en | .ct => .ok .ct en | .rt d o => .ok (.rt d o) en := evSs_cons ⟨w, C, md⟩ s ss en
theorem word_core {Ng : List Str} {x a e n q : Str} {sg : Scope} {g CS : Addr} {cdg : Value} {f c' : Addr} {s : Shared} {H : Hp} {Q : VK} {tl : XK → Hp → VK → Prop} {ei np : Nat} {cs : List Nat} {b' r' : Ss} {b₀ : Stmt} {suite rest : List Stmt} {p1 p2 p3 p4 p5 p6 : Pos}
    {st : D → En} {σ1 : L2.St} {U : Ev} (hx : ∀ a c d, ¬ Y.ex a c d) (hth : ∀ a, Y.th a)
    (act : ∀ (W : WX) (pn : List (Addr × Obj)) (xe : Value → Shared → Prop) (E : XK) (p1 p2 : Pos), Takes ((cxOf C8.CX0 X.prog X.w X.K X.mg X.base Ng x sg g cdg X.A X.stack s H C8.E0).tr pn xe) W → (∀ cls d σ' H', E cls d H' → W cls d σ' H') →
      PE ((cxOf C8.CX0 X.prog X.w X.K X.mg X.base Ng x sg g cdg X.A X.stack s H C8.E0).tr pn xe) (.Call (.Name a p1) [] [] p2) (fun σZ HZ Q => σZ[0]? = some (some (.ref f)) ∧ HZ c' = some (LamX.CodeO c' q) ∧ tl E HZ Q))
    (hco : H c' = some (LamX.CodeO c' q))
    (htt : TTw Y (fun args => match args with | [(_, d)] => resOf np (evSs U.w U.C U.md (.cons (.tryw 0 ei cs b') r') (st d)) | _ => .bad) tl H Q)
    (h0 : ∀ d, (st d)[0]? = some (some (.sh, d))) (hl : ∀ d, (st d).length = Ng.length) (l1 : σ1.length = Ng.length) (hei : ei < Ng.length) (s0 : σ1[0]? = some (some (.ref f)))
    (hsh : ∀ (G : Hp) (d : D), Rep Y G (.ref f) d → ∀ (i : Nat) (ow : Ow) (d' : D), (st d)[i]? = some (some (ow, d')) → ow = .sh ∧ ∃ v, σ1[i]? = some (some v) ∧ Rep Y G v d')
    (hN : Ng.Nodup) (hi : Ng[ei]? = some n) (hln : sg.names.lookup n = some .local) (hge : sg.names.lookup e = some .globalImplicit) (hme : X.mg e = some (.ref CS)) (hcs : ∀ c, Y.xk c → PySem.W.exmOne X.K (.ref (Y.ca c)) (.ref CS) = some (cs.contains c))
    (hsu : ∀ (a : Addr) (oe : Obj) (cls : Value) (d : Option Addr) (pn : List (Addr × Obj)), Zc cls d oe → (∃ vs, oe.data = .fields vs) → (∃ c, Y.xk c ∧ cls = .ref (Y.ca c)) → PSs ((wZ X Ng x sg g cdg s H).suite a ((a, oe) :: pn)) (b₀ :: suite) (rdSs (Y.su a cls d) W0 U b'))
    (hrest : PSs (wZ X Ng x sg g cdg s H) rest (rdSs Y W0 U r')) (hde : (e == ("__debug__" : Str)) = false := by decide) :
    ∃ t, PSs (wZ X Ng x sg g cdg s H) (.Try [.Expr (.Call (.Name a p1) [] [] p2) p3] [.ExceptHandler (some (.Name e p4)) (some n) (b₀ :: suite) p5] [] [] p6 :: rest) t ∧ t { nx := fun _ H' => Q .non H', rt := Q } σ1 H := by
  have hgl : Gl (wZ X Ng x sg g cdg s H) e := hge
  have tk0 : Takes (wZ X Ng x sg g cdg s H) (fun _ _ _ _ => False) := LamX.takes0
  refine ⟨_, pss_cons (ps_try_as (X := wZ X Ng x sg g cdg s H) (i := ei) (c := .ref CS) (Wout := fun _ _ _ _ => False)
      (tb := fun W D σ H1 => ∃ (Ech : XK) (Q1 : VK), (∀ cls d σ' H', Ech cls d H' → W cls d σ' H') ∧ (∀ v H2, Q1 v H2 → D.nx σ H2) ∧ σ[0]? = some (some (.ref f)) ∧ H1 c' = some (LamX.CodeO c' q) ∧ tl Ech H1 Q1)
      (ts := fun a cls d D σ H1 => (∃ c, Y.xk c ∧ cls = .ref (Y.ca c)) ∧ (σ.length = Ng.length → rdSs (Y.su a cls d) W0 U b' D σ H1))
      rfl rfl hN hi hln ⟨hgl, hde, .inl hme⟩ tk0 (fun W pn xe tk _ => ?_) (fun a oe cls d pn hz hf => ?_)) hrest, ?_⟩
  · refine ⟨fun pinsZ s' σ H1 D I h' => ?_⟩
    obtain ⟨Ech, Q1, hW, hm, h1, h2, h3⟩ := h'
    have hp := act W pn xe Ech p1 p2 tk hW
    have hp2 : PE ((cxOf C8.CX0 X.prog X.w X.K X.mg X.base Ng x sg g cdg X.A X.stack s H C8.E0).tr pn xe) (.Call (.Name a p1) [] [] p2) (fun σZ HZ Q => ∃ Q1 : VK, (∀ v H, Q1 v H → Q v H) ∧ σZ[0]? = some (some (.ref f)) ∧ HZ c' = some (LamX.CodeO c' q) ∧ tl Ech HZ Q1) :=
      ⟨fun pins s σ H Q I ⟨Q1, m, r⟩ => thn (hp.run pins s σ H Q1 I r) fun v s1 ⟨x, H1, I1, r1, q1⟩ => ⟨x, H1, I1, r1, m _ _ q1⟩⟩
    have hq := pss_one (ps_expr (pos := p3) hp2)
    exact hq.run pinsZ s' σ H1 D I ⟨Q1, hm, h1, h2, h3⟩
  · exact ⟨fun pinsZ s' σ H1 D I ⟨hc, h⟩ => (hsu a oe cls d pn hz hf hc).run pinsZ s' σ H1 D I (h I.len)⟩
  · show ∃ (Ech : XK) (Q1 : VK), _
    refine ⟨_, _, fun cls dd σ' H' ⟨G1, R1, xx, S1, ox, pw⟩ => ?_, fun v H2 ⟨G1, R1, d, S1, rv, pw⟩ => ?_, s0, hco, htt⟩
    · obtain ⟨xk, rfl, ox⟩ := ox
      have pw : PW Y G1 R1 (resOf np (evSs U.w U.C U.md (.cons (.tryw 0 ei cs b') r') (st (.thk false (.exc xx.c xx.ns xx.xs))))) Q := pw
      rw [evSs_consU, evS, h0] at pw
      dsimp only at pw
      refine ⟨cs.contains xx.c, hcs _ xk, fun hb b na => ⟨⟨_, xk, rfl⟩, fun hlen => ?_⟩, fun hb => ?_⟩
      · rw [if_pos hb, hl] at pw
        have rx : Rep (Y.su b (.ref (Y.ca xx.c)) dd) G1 (.ref b) (.exc xx.c xx.ns xx.xs) := by
          rcases ox with ⟨h1, h2, h3⟩ | ⟨da, fs, h1, h2, h3, h4⟩
          · rw [h1, h2]; exact .exc0 ⟨rfl, xk, rfl, h3.symm⟩
          · exact .exc1 ⟨rfl, xk, rfl, h1.symm⟩ h2 h3 (RepL.su hx h4)
        have hlen' : σ'.length = Ng.length := by simpa using hlen
        have Sx : Sep (Y.su b (.ref (Y.ca xx.c)) dd) G1 R1 H' (σ'.set ei (some (.ref b))) ((List.replicate Ng.length none).set ei (some (.sh, .exc xx.c xx.ns xx.xs))) := (Sep.suIn hx S1).mkSh (by simp [hlen']) fun i ow d' e => by
          by_cases hi : ei = i
          · subst hi
            rw [List.getElem?_set_self (by simp; exact hei)] at e
            cases e
            exact ⟨rfl, _, List.getElem?_set_self (by rw [hlen']; exact hei), rx⟩
          · rw [List.getElem?_set_ne hi, List.getElem?_replicate] at e
            split at e <;> cases e
        refine ⟨G1, R1, _, Sx, ?_⟩
        cases z : evSs U.w U.C U.md b' ((List.replicate Ng.length none).set ei (some (.sh, .exc xx.c xx.ns xx.xs))) with
        | er x3 en3 => rw [z] at pw; exact pw.elim
        | bad => rw [z] at pw; exact pw.elim
        | ok fl en3 =>
          rw [z] at pw
          dsimp only at pw
          intro σ3 H3 G3 s3 k3 S3
          by_cases hn : (noXf fl && (en3.set ei none).all noXc) = true
          · rw [if_pos hn] at pw
            obtain ⟨n1, n2⟩ := Bool.and_eq_true_iff.mp hn
            have Sd : Sep Y G3 R1 H3 σ3 (en3.set ei none) := Sep.unsu S3.drop n2
            cases fl with
            | nx =>
              have Sd2 : Sep Y G3 R1 H3 (σ3.set ei none) (en3.set ei none) := Sd.agree (by rw [List.length_set]; exact Sd.len) fun i x e => by
                refine ⟨e, ?_⟩
                by_cases hi : ei = i
                · subst hi
                  by_cases hb : ei < en3.length
                  · rw [List.getElem?_set_self hb] at e; cases e
                  · rw [List.getElem?_eq_none (by rw [List.length_set]; omega)] at e; cases e
                · exact List.getElem?_set_ne hi
              have pw : PW Y G1 R1 (resOf np (evSs U.w U.C U.md r' (en3.set ei none))) Q := pw
              exact ⟨G3, R1, _, Sd2, PstS.weak (PW.st (σ := σ3.set ei none) (en := en3.set ei none) pw) s3 (Keep.refl _ _)⟩
            | br => exact pw.elim
            | ct => exact pw.elim
            | rt d own =>
              intro v o
              have pw : PW Y G1 R1 (.ok d own (outsOf np (en3.set ei none))) Q := pw
              refine pw v H3 G3 s3 Sd.forget ?_
              cases own with
              | false => exact Rep.unsu n1 o
              | true =>
                obtain ⟨b2, e2, w2, _⟩ := o
                exact ⟨b2, e2, ⟨w2.g, w2.r, w2.t.unsu n1⟩, fun i h => by cases h⟩
          · rw [if_neg hn] at pw
            exact pw.elim
      · rw [if_neg (by rw [hb]; decide)] at pw
        exact pw.elim
    · have pw : PW Y G1 R1 (resOf np (evSs U.w U.C U.md (.cons (.tryw 0 ei cs b') r') (st (.thk true d)))) Q := pw
      rw [evSs_consU, evS, h0] at pw
      have pw : PW Y G1 R1 (resOf np (evSs U.w U.C U.md r' (st (.thk true d)))) Q := pw
      exact ⟨G1, R1, _, S1.mkSh (by rw [l1, hl]) (hsh G1 _ (.thk (hth f))), PW.st pw⟩
theorem start3_1 (nn : Nat) (d : D) : start3 nn [(false, d)] = some (.sh, d) :: List.replicate (nn - 1) none := rfl
theorem rep1_get {nn i : Nat} {x : Ow × D} {d : D} (e : (some (Ow.sh, d) :: List.replicate (nn - 1) none)[i]? = some (some x)) : i = 0 ∧ x = (.sh, d) := by
  cases i with
  | zero => simp at e; exact ⟨rfl, e.symm⟩
  | succ i => rw [List.getElem?_cons_succ, List.getElem?_replicate] at e; split at e <;> cases e
/-- try: a() / except e as n: suite; rest -/
theorem word_gives0 {Ng : List Str} {x a e n q : Str} {sg : Scope} {g CS : Addr} {cdg : Value} {ei nn : Nat} {md1 : List Bool} {cs : List Nat} {b' r' : Ss} {b₀ : Stmt} {suite rest : List Stmt} {p1 p2 p3 p4 p5 p6 : Pos} {U : Ev}
    (hx : ∀ a c d, ¬ Y.ex a c d) (hth : ∀ a, Y.th a) (hn : Ng.length = nn) (hei : ei < nn) (hN : Ng.Nodup) (hi : Ng[ei]? = some n) (hln : sg.names.lookup n = some .local) (hge : sg.names.lookup e = some .globalImplicit) (hme : X.mg e = some (.ref CS))
    (hcs : ∀ c, Y.xk c → PySem.W.exmOne X.K (.ref (Y.ca c)) (.ref CS) = some (cs.contains c))
    (hsu : ∀ (s : Shared) (H : Hp) (a : Addr) (oe : Obj) (cls : Value) (d : Option Addr) (pn : List (Addr × Obj)), Zc cls d oe → (∃ vs, oe.data = .fields vs) → (∃ c, Y.xk c ∧ cls = .ref (Y.ca c)) → PSs ((wZ X Ng x sg g cdg s H).suite a ((a, oe) :: pn)) (b₀ :: suite) (rdSs (Y.su a cls d) W0 U b'))
    (hrest : ∀ (s : Shared) (H : Hp), PSs (wZ X Ng x sg g cdg s H) rest (rdSs Y W0 U r')) (hde : (e == ("__debug__" : Str)) = false := by decide) :
    LamX.GivesTo X Ng x sg g cdg (.Try [.Expr (.Call (.Name a p1) [] [] p2) p3] [.ExceptHandler (some (.Name e p4)) (some n) (b₀ :: suite) p5] [] [] p6 :: rest) a q
      (TTw Y (runFn U.w U.C U.md ⟨1, nn, md1, .cons (.tryw 0 ei cs b') r'⟩)) := by
  intro f c' s H Q tl act hc htt
  have l1 : (L2.start Ng [V.ref f]).length = Ng.length := by
    show ([some (V.ref f)] ++ List.replicate (Ng.length - 1) none).length = _
    simp; omega
  exact word_core (σ1 := L2.start Ng [V.ref f]) (np := 1) (st := fun d => start3 nn [(false, d)]) hx hth act hc htt (fun d => rfl) (fun d => by rw [start3_1]; simp; omega) l1 (by omega) rfl
    (fun G d r i ow d' e => by
      obtain ⟨rfl, e2⟩ := rep1_get e
      cases e2
      exact ⟨rfl, _, rfl, r⟩) hN hi hln hge hme hcs (hsu s H) (hrest s H) hde
/-- v = c; try: a() / except e as n: suite; rest -/
theorem word_gives1 {Ng : List Str} {x a e n q v : Str} {sg : Scope} {g CS : Addr} {cdg : Value} {ei j nn : Nat} {md1 : List Bool} {cs : List Nat} {b' r' : Ss} {b₀ : Stmt} {suite rest : List Stmt} {p1 p2 p3 p4 p5 p6 pv pa : Pos} {U : Ev} {ce : Expr} {cv : V} {dc : D}
    (hx : ∀ a c d, ¬ Y.ex a c d) (hth : ∀ a, Y.th a) (hn : Ng.length = nn) (hei : ei < nn) (hN : Ng.Nodup) (hi : Ng[ei]? = some n) (hln : sg.names.lookup n = some .local) (hge : sg.names.lookup e = some .globalImplicit) (hme : X.mg e = some (.ref CS))
    (hj : j < nn) (hj0 : 0 < j) (hv : Ng[j]? = some v) (hlv : sg.names.lookup v = some .local) (hce : ∀ (s : Shared) (H : Hp), PE (wZ X Ng x sg g cdg s H) ce (tC cv)) (hrc : ∀ G, Rep Y G cv dc) (hsw : ∀ (s : Shared) (H : Hp), swapsWith ce (some (.Name v pv)) pa.line (wZ X Ng x sg g cdg s H).env = pure false)
    (hcs : ∀ c, Y.xk c → PySem.W.exmOne X.K (.ref (Y.ca c)) (.ref CS) = some (cs.contains c))
    (hsu : ∀ (s : Shared) (H : Hp) (a : Addr) (oe : Obj) (cls : Value) (d : Option Addr) (pn : List (Addr × Obj)), Zc cls d oe → (∃ vs, oe.data = .fields vs) → (∃ c, Y.xk c ∧ cls = .ref (Y.ca c)) → PSs ((wZ X Ng x sg g cdg s H).suite a ((a, oe) :: pn)) (b₀ :: suite) (rdSs (Y.su a cls d) W0 U b'))
    (hrest : ∀ (s : Shared) (H : Hp), PSs (wZ X Ng x sg g cdg s H) rest (rdSs Y W0 U r')) (hde : (e == ("__debug__" : Str)) = false := by decide) :
    LamX.GivesTo X Ng x sg g cdg (.Assign [.Name v pv] ce pa :: .Try [.Expr (.Call (.Name a p1) [] [] p2) p3] [.ExceptHandler (some (.Name e p4)) (some n) (b₀ :: suite) p5] [] [] p6 :: rest) a q
      (TTw Y (runFn U.w U.C U.md ⟨1, nn, md1, .cons (.asg (.nm j) (.cst dc)) (.cons (.tryw 0 ei cs b') r')⟩)) := by
  intro f c' s H Q tl act hc htt
  have l1 : (L2.start Ng [V.ref f]).length = Ng.length := by
    show ([some (V.ref f)] ++ List.replicate (Ng.length - 1) none).length = _
    simp; omega
  have hrun : ∀ d, runFn U.w U.C U.md ⟨1, nn, md1, .cons (.asg (.nm j) (.cst dc)) (.cons (.tryw 0 ei cs b') r')⟩ [(false, d)] = resOf 1 (evSs U.w U.C U.md (.cons (.tryw 0 ei cs b') r') ((start3 nn [(false, d)]).set j (some (.sh, dc)))) := fun d => by
    show resOf 1 (evSs U.w U.C U.md (.cons (.asg (.nm j) (.cst dc)) _) (start3 nn [(false, d)])) = _
    have hst : stVar j dc false (start3 nn [(false, d)]) = some ((start3 nn [(false, d)]).set j (some (.sh, dc))) := by
      obtain ⟨k, rfl⟩ : ∃ k, j = k + 1 := ⟨j - 1, by omega⟩
      have e : (start3 nn [(false, d)])[k + 1]? = some none := by
        rw [start3_1, List.getElem?_cons_succ, List.getElem?_replicate, if_pos (by omega)]
      unfold stVar
      rw [e]
      rfl
    rw [evSs_consU, evS, evE]
    show resOf 1 (((stR (stVar j dc false (start3 nn [(false, d)]))).bind fun _ en => Rs.ok Fl.nx en).bind _) = _
    rw [hst]
    rfl
  have htt' : TTw Y (fun args => match args with | [(_, d)] => resOf 1 (evSs U.w U.C U.md (.cons (.tryw 0 ei cs b') r') ((start3 nn [(false, d)]).set j (some (.sh, dc)))) | _ => .bad) tl H Q := by
    unfold TTw at htt ⊢
    simp only [hrun] at htt
    exact htt
  obtain ⟨t, h1, h2⟩ := word_core (σ1 := (L2.start Ng [V.ref f]).set j (some cv)) (np := 1) (p1 := p1) (p2 := p2) (p3 := p3) (p4 := p4) (p5 := p5) (p6 := p6) (st := fun d => (start3 nn [(false, d)]).set j (some (.sh, dc))) hx hth act hc htt'
    (fun d => by rw [List.getElem?_set_ne (by omega)]; rfl) (fun d => by rw [List.length_set, start3_1]; simp; omega) (by rw [List.length_set]; exact l1) (by omega) (by rw [List.getElem?_set_ne (by omega)]; rfl)
    (fun G d r i ow d' e => by
      by_cases hji : j = i
      · subst hji
        rw [List.getElem?_set_self (by rw [start3_1]; simp; omega)] at e
        cases e
        exact ⟨rfl, cv, List.getElem?_set_self (by rw [l1]; omega), hrc G⟩
      · rw [List.getElem?_set_ne hji] at e ⊢
        obtain ⟨rfl, e2⟩ := rep1_get e
        cases e2
        exact ⟨rfl, _, rfl, r⟩) hN hi hln hge hme hcs (hsu s H) (hrest s H) hde
  exact ⟨_, pss_cons (ps_set hN hv (.inl hlv) (hce s H) (hsw s H) (.inr hlv)) h1, h2⟩
end
end L3

/-! L3O: a def keeps its promise. -/
namespace L3
open PySem PySem.Spec PyProof.Rows L2
section
variable {Y : Wd} {G R H : Hp} {σ : L2.St} {en : En}
theorem Sep.starts {vs : List V} {cs : List Cell} (S : Sep Y G R H (vs.map some) cs) (k : Nat) : Sep Y G R H (vs.map some ++ List.replicate k none) (cs ++ List.replicate k none) := by
  have hl : (vs.map some).length = cs.length := S.len
  have key : ∀ (i : Nat) x, (cs ++ List.replicate k none)[i]? = some (some x) → cs[i]? = some (some x) ∧ (vs.map some ++ List.replicate k none)[i]? = (vs.map some)[i]? := fun i x e => by
    by_cases h : i < cs.length
    · rw [List.getElem?_append_left h] at e
      exact ⟨e, List.getElem?_append_left (by rw [hl]; exact h)⟩
    · rw [List.getElem?_append_right (by omega), List.getElem?_replicate] at e
      split at e <;> cases e
  exact S.agree (by rw [List.length_append, List.length_append, hl, List.length_replicate, List.length_replicate]) key
theorem outsOf_get {np i : Nat} {x : Ow × D} (e : (outsOf np en)[i]? = some (some x)) : i < np ∧ en[i]? = some (some x) ∧ x.1.isB = true := by
  unfold outsOf at e
  rw [List.getElem?_map] at e
  by_cases h : i < np
  · rw [List.getElem?_range h] at e
    have e : some (keepB ((en[i]?).getD none)) = some (some x) := e
    cases q : en[i]? with
    | none => rw [q] at e; cases e
    | some c =>
      rw [q] at e
      cases c with
      | none => cases e
      | some p =>
        obtain ⟨ow, d⟩ := p
        have e : some (if ow.isB then some (ow, d) else none) = some (some x) := e
        split at e
        · rename_i hb; cases e; exact ⟨h, rfl, hb⟩
        · cases e
  · rw [List.getElem?_eq_none (by simp; omega)] at e; cases e
/-- the parameters behind the call -/
theorem Sep.outs {σ0 σ' : L2.St} {en0 en' : En} {vs : List V} {np : Nat} (S : Sep Y G R H σ' en') (k : Keep σ0 en0 σ' en') (hl : vs.length = np) (h0 : ∀ i : Nat, i < np → σ0[i]? = (vs.map some)[i]?) :
    Sep Y G R H (vs.map some) (outsOf np en') ∧ ∀ (v : V) (d : D) (own : Bool), Vok Y G R H σ' en' v d own → Vok Y G R H (vs.map some) (outsOf np en') v d own := by
  have key : ∀ (i : Nat) x, (outsOf np en')[i]? = some (some x) → en'[i]? = some (some x) ∧ (vs.map some)[i]? = σ'[i]? := fun i x e => by
    obtain ⟨h1, h2, h3⟩ := outsOf_get e
    refine ⟨h2, ?_⟩
    have hb : isBC en'[i]? = true := by rw [h2]; exact h3
    rw [(k i).1] at hb
    rw [(k i).2 hb, h0 i h1]
  refine ⟨S.agree (by simp [outsOf, hl]) key, fun v d own o => ?_⟩
  cases own with
  | false => exact o
  | true =>
    obtain ⟨a, e, w, f⟩ := o
    refine ⟨a, e, w, fun i hi z => ?_⟩
    obtain ⟨ow, d, e1, e2⟩ := isOwnC_get hi
    obtain ⟨h1, h2⟩ := key i _ e1
    rw [h2] at z
    exact f i (by rw [h1]; exact e2) z
theorem PstF.st {vs : List V} {args : List (Bool × D)} {np : Nat} {σ0 : L2.St} {en0 : En} {r : Rs Fl} {Q : VK} {E : XK} (h : PstF Y G R vs (resOf np r) Q E) (hl : vs.length = np) (h0 : ∀ i : Nat, i < np → σ0[i]? = (vs.map some)[i]?) :
    PstS Y (wE E) G R σ0 en0 r { nx := fun _ H' => Q .non H', rt := Q } := by
  cases r with
  | ok fl en' =>
    intro σ' H' G' s k S
    obtain ⟨h1, h2⟩ := Sep.outs S k hl h0
    cases fl with
    | nx => exact h .non H' G' s h1 .non
    | br => exact h.elim
    | ct => exact h.elim
    | rt d own => exact fun v o => h v H' G' s h1 (h2 v d own o)
  | er x en' =>
    intro cls dd σ' H' G' s k S o
    obtain ⟨h1, h2⟩ := Sep.outs S k hl h0
    exact h cls dd H' G' s h1 o
  | bad => exact h.elim
end
/-- a def's function object as the written part has it -/
def fdOf (K : PySem.W.Frag) (p : Str × Option Str) : FuncData := match K.lookup (He.fAd K p) with
  | some ⟨_, _, .func fd, _⟩ => fd
  | _ => PySem.W.fnOf "" "" ⟨[], [], none, [], [], none, []⟩ [] ⟨.module, [], false, false, []⟩ .none .none .none .none none .none .none
theorem fdOf_eq {K : PySem.W.Frag} {x qual : Str} {params : Arguments} {body : List Stmt} {scope : Scope} {dvs : List V} {kws : List (Str × V)} {p : Str × Option Str} {fd : FuncData} (F : FunD K x qual params body scope dvs kws (He.fAd K p) fd) : fdOf K p = fd := by
  obtain ⟨oc, od, dV, kV, doc, pm, an, cdv, ct, osl, _, lk, _⟩ := F.ex
  unfold fdOf
  rw [lk]
section
variable {P : Program} {w : World} {K : PySem.W.Frag} {mg : Str → Option Value} {base : Heap} {Y : Wd}
/-- THE RULE for a def -/
theorem fn_ok {x qual : Str} {params : Arguments} {body : List Stmt} {scope : Scope} {at_ : Str × Option Str} {fd : FuncData} {N ps : List Str} {k : Nat} {U : Ev} {fn : Fn} (F : FunD K x qual params body scope [] [] (He.fAd K at_) fd) (S : FnScope N ps scope) (hnp : fn.np = ps.length) (hnn : fn.nn = N.length)
    (hbody : ∀ (cdv : Value) (A : Around) (outer : List Env) (s : Shared) (H : Hp) (E : XK), Room k (A.deeper (envOfC qual scope s.heap.objs.size (He.fAd K at_) cdv)) → cdv = .ref (He.codeOf K at_) →
      PSs (cxOf (L2.CX P w) P w K mg base N qual scope (He.fAd K at_) cdv A outer s H E) body (rdSs Y (wE E) U fn.body)) :
    FnOk P w K mg base (L2.CX P w) (k + 1) (He.fAd K at_) fd ps (spF Y (runFn U.w U.C U.md fn)) := by
  obtain ⟨oc, od, dV, kV, doc, pm, an, cdv, ct, osl, rfl, lk, hcd, _, _⟩ := F.ex
  have hlen : ∀ vs H Q E, spF Y (runFn U.w U.C U.md fn) vs H Q E → ∃ G R args, Sep Y G R H (vs.map some) (args.map cellOf) ∧ args.length = fn.np ∧ vs.length = ps.length ∧ PstF Y G R vs (resOf fn.np (evSs U.w U.C U.md fn.body (start3 fn.nn args))) Q E := fun vs H Q E ⟨G, R, args, S, p⟩ => by
    unfold runFn at p
    split at p
    · rename_i h
      have := S.len
      simp at this
      exact ⟨G, R, args, S, h, by rw [this, h, hnp], p⟩
    · exact p.elim
  refine fn_of lk hcd S (fun vs H Q E h => ?_) fun A outer s H vs Q E hr h => ?_
  · obtain ⟨_, _, _, _, _, h, _⟩ := hlen vs H Q E h
    exact h
  · obtain ⟨G, R, args, Sx, h1, h2, p⟩ := hlen vs H Q E h
    obtain ⟨c, hc⟩ := He.codeIn_ref hcd
    have hcc : He.codeOf K at_ = c := He.codeOf_eq lk hc
    refine ⟨_, hbody cdv A outer s H E hr (by rw [hcc]; exact hc), G, R, start3 fn.nn args, ?_, ?_⟩
    · have := Sx.starts (fn.nn - args.length)
      have e : N.length - vs.length = fn.nn - args.length := by rw [hnn, h1, hnp, h2]
      unfold L2.start start3
      rw [e]
      exact this
    · refine PstF.st (args := args) p (by rw [hnp]; exact h2) fun i hi => ?_
      unfold L2.start
      exact List.getElem?_append_left (by simp; omega)
end
theorem callD_succ {T : List Fn} {w n f : Nat} {fn : Fn} (h : T[f]? = some fn) : callD T w (n + 1) f = runFn w (callD T w n) (mdOf T) fn := by
  funext args
  simp only [callD, h]
section
variable {P : Program} {w : World} {K : PySem.W.Frag} {mg : Str → Option Value} {base : Heap}
/-- __init__(self, f): self.f = f of an own exception class -/
theorem init_ok {C : Addr} {x qual f a1 a2 : Str} {params : Arguments} {scope : Scope} {fI : Addr} {fd : FuncData} {k : Nat} {p1 p2 p3 p4 : Pos} (F : FunD K x qual params [.Assign [.Attribute (.Name a1 p1) f p2] (.Name a2 p3) p4] scope [] [] fI fd)
    (S : FnScope [a1, a2] [a1, a2] scope) (T : OexC K C) (hno : PySem.W.findIn K (.ref C) f = some none) (v1 : Vis scope a1) (v2 : Vis scope a2) (d1 : (a1 == ("__debug__" : Str)) = false := by decide) (d2 : (a1 == ("__classdict__" : Str)) = false := by decide)
    (d3 : (a2 == ("__debug__" : Str)) = false := by decide) (d4 : (a2 == ("__classdict__" : Str)) = false := by decide) : FnOk P w K mg base (L2.CX P w) (k + 1) fI fd [a1, a2] (spI C f) := by
  refine F.ok S (fun vs H Q E h => ?_) (fun cdv A outer s H vs Q E hr h => ?_)
  · obtain ⟨a, y, rfl, _⟩ := h; rfl
  · obtain ⟨a, y, rfl, ha, q⟩ := h
    refine ⟨_, pss_one (ps_ost (pe_var (i := 0) rfl v1 d1 d2) (pe_var (i := 1) rfl v2 d3 d4)), ?_⟩
    exact ⟨y, rfl, .ref a, rfl, a, C, rfl, T, hno, .inl ⟨ha, fun dx n ne => q dx n ne⟩⟩
/-! ### facts as Bools -/
def oexB (K : PySem.W.Frag) (C : Addr) : Bool := (match K.lookup C with
    | some ⟨.type "type", dd, .cls cd, sl⟩ => (match cd.mro, sl.toList with
      | .ref C' :: bm, [_, _, _, _, some (.builtin n), _] => C' == C && n == "ValueError.__new__" && !cd.hasDel && cd.hasDict && PySem.HandSPX.refsVE bm
      | _, _ => false)
    | _ => false) && (decide (PySem.W.findIn K (.ref C) "__setattr__" = some (some (.builtin "object.__setattr__"))) && (decide (PySem.W.subIn K (.ref C) (.type "BaseException") = some true) && (decide (PySem.W.typeIn K (.ref C) = some (.type "type")) && PySem.W.keepIn K (.ref C))))
theorem oexB_ok {K : PySem.W.Frag} {C : Addr} (h : oexB K C = true) : OexC K C := by
  obtain ⟨h1, h⟩ := Bool.and_eq_true_iff.mp h
  obtain ⟨h2, h⟩ := Bool.and_eq_true_iff.mp h
  obtain ⟨h3, h⟩ := Bool.and_eq_true_iff.mp h
  obtain ⟨h4, h5⟩ := Bool.and_eq_true_iff.mp h
  refine ⟨?_, of_decide_eq_true h2, of_decide_eq_true h3, of_decide_eq_true h4, h5⟩
  split at h1
  · rename_i dd cd sl ho
    split at h1
    · rename_i C' bm k0 k1 k2 k3 n k5 hm hs
      simp only [Bool.and_eq_true, beq_iff_eq, Bool.not_eq_true'] at h1
      obtain ⟨⟨⟨⟨rfl, rfl⟩, hdel⟩, hdi⟩, hr⟩ := h1
      obtain ⟨nm, bs, mro, ns, qn, hd, sn, sub, ab, col, del⟩ := cd
      dsimp only at hm hdel hdi
      subst hm hdel hdi
      have hsl : sl = #[k0, k1, k2, k3, some (.builtin "ValueError.__new__"), k5] := by
        obtain ⟨l⟩ := sl
        simp only at hs
        rw [hs]
      subst hsl
      exact ⟨nm, qn, ns, bs, bm, sn, sub, ab, col, dd, k0, k1, k2, k3, k5, ho, hr⟩
    · cases h1
  · cases h1
def excB (K : PySem.W.Frag) (D : Addr) : Bool := He.eqO (PySem.W.findIn K (.ref D) "__getattribute__") (some (some (.builtin "BaseException.__getattribute__"))) && (He.eqO (PySem.W.findIn K (.ref D) "__getattr__") (some none) && (decide (PySem.W.subIn K (.ref D) (.type "BaseException") = some true) &&
  (PySem.W.hasDictIn K D && (He.eqO (PySem.W.findIn K (.ref D) "__class__") (some (some (.builtin "object.__class__"))) && (He.eqO (PySem.W.specialIn K (.builtin "object.__class__") "__get__") (some (some (.builtin "getset_descriptor.__get__"))) &&
  (decide (PySem.W.takesIn K (.builtin "object.__class__") = some true) && decide (PySem.W.mroIn K D (.type "object") = some true)))))))
theorem excB_ok {K : PySem.W.Frag} {D : Addr} (h : excB K D = true) : ExcC K D ∧ XfC K D := by
  obtain ⟨h1, h⟩ := Bool.and_eq_true_iff.mp h
  obtain ⟨h2, h⟩ := Bool.and_eq_true_iff.mp h
  obtain ⟨h3, h⟩ := Bool.and_eq_true_iff.mp h
  obtain ⟨h4, h⟩ := Bool.and_eq_true_iff.mp h
  obtain ⟨h5, h⟩ := Bool.and_eq_true_iff.mp h
  obtain ⟨h6, h⟩ := Bool.and_eq_true_iff.mp h
  obtain ⟨h7, h8⟩ := Bool.and_eq_true_iff.mp h
  exact ⟨⟨He.eqO_ok h1, He.eqO_ok h2, of_decide_eq_true h3, h4, He.eqO_ok h5, He.eqO_ok h6, of_decide_eq_true h7, of_decide_eq_true h8⟩, ⟨He.eqO_ok h1, He.eqO_ok h2, of_decide_eq_true h3, h4⟩⟩
/-- own exception classes: the names; cs: for each class, who is one of it (by number) -/
def exnsB (K : PySem.W.Frag) (xs : List Str) : Bool := xs.all fun x => excB K (He.ga K x)
/-- isinstance of the exceptions -/
def isB (K : PySem.W.Frag) (xs : List Str) (q : Value × List Nat) : Bool := (List.range xs.length).all fun i => match xs[i]? with
  | some x => decide (PySem.W.kitOne K (.ref (He.ga K x)) q.1 = some (q.2.contains i))
  | none => false
/-- except clauses -/
def exmB (K : PySem.W.Frag) (xs : List Str) (q : Addr × List Nat) : Bool := (List.range xs.length).all fun i => match xs[i]? with
  | some x => decide (PySem.W.exmOne K (.ref (He.ga K x)) (.ref q.1) = some (q.2.contains i))
  | none => false
/-- fields that no class has -/
def noatB (K : PySem.W.Frag) (xs : List Str) (f : Str) : Bool := xs.all fun x => He.eqO (PySem.W.findIn K (.ref (He.ga K x)) f) (some none)
/-- the class with number c -/
def caOf (K : PySem.W.Frag) (xs : List Str) (c : Nat) : Addr := He.ga K (xs.getD c "")
theorem getD_of {xs : List Str} {c : Nat} (h : c < xs.length) : xs[c]? = some (xs.getD c "") := by
  rw [List.getD_eq_getElem?_getD, List.getElem?_eq_getElem h]; rfl
theorem isB_ok {K : PySem.W.Frag} {xs : List Str} {q : Value × List Nat} (h : isB K xs q = true) {c : Nat} (hc : c < xs.length) : PySem.W.kitOne K (.ref (caOf K xs c)) q.1 = some (q.2.contains c) := by
  have := List.all_eq_true.mp h c (List.mem_range.mpr hc)
  rw [getD_of hc] at this
  exact of_decide_eq_true this
theorem exmB_ok {K : PySem.W.Frag} {xs : List Str} {q : Addr × List Nat} (h : exmB K xs q = true) {c : Nat} (hc : c < xs.length) : PySem.W.exmOne K (.ref (caOf K xs c)) (.ref q.1) = some (q.2.contains c) := by
  have := List.all_eq_true.mp h c (List.mem_range.mpr hc)
  rw [getD_of hc] at this
  exact of_decide_eq_true this
theorem noatB_ok {K : PySem.W.Frag} {xs : List Str} {f : Str} (h : noatB K xs f = true) {c : Nat} (hc : c < xs.length) : PySem.W.findIn K (.ref (caOf K xs c)) f = some none :=
  He.eqO_ok (List.all_eq_true.mp h _ (List.mem_of_getElem? (getD_of hc)))
theorem exnsB_ok {K : PySem.W.Frag} {xs : List Str} (h : exnsB K xs = true) {c : Nat} (hc : c < xs.length) : ExcC K (caOf K xs c) ∧ XfC K (caOf K xs c) := excB_ok (List.all_eq_true.mp h _ (List.mem_of_getElem? (getD_of hc)))
/-! ### a law's end -/
theorem Sep.scr {Y : Wd} {H : Hp} {a : Addr} {ns : List Int} (hS : SqL Y.K H a (ns.map V.int)) (hT : LamX.Tabs Y.T H) : ∃ G R, Sep Y G R H ([V.ref a].map some) ([(false, D.fls (ns.map D.int))].map cellOf) := by
  let G : Hp := fun b => match H b with | some (.tbl _) => none | x => x
  have gS : ∀ b o, H b = some o → (∀ ps, o ≠ .tbl ps) → G b = some o := fun b o e n => by
    show (match H b with | some (.tbl _) => none | x => x) = some o
    rw [e]
    cases o <;> first | rfl | exact absurd rfl (n _)
  have gH : Same G H := fun b o e => by
    have e : (match H b with | some (.tbl _) => none | x => x) = some o := e
    split at e
    · cases e
    · exact e
  have hG : SqL Y.K G a (ns.map V.int) := by
    rcases hS with (h | ⟨o, h⟩) | h
    · exact .inl (.inl (gS _ _ h fun ps z => by cases z))
    · exact .inl (.inr ⟨o, gS _ _ h fun ps z => by cases z⟩)
    · exact .inr h
  refine ⟨G, fun _ => none, gH, (fun b o e => by cases e), (fun b o e => by cases e), rfl, fun i ow d e k => ?_, fun i ow d e k => ?_, fun i j b e1 => ?_, ⟨hT, fun b ps z => ?_, fun b ps z => by cases z⟩⟩
  · cases i with
    | zero => cases e; exact ⟨_, rfl, .fls hG (RepL.ofInts ns)⟩
    | succ i => cases e
  · cases i with
    | zero => cases e; cases k
    | succ i => cases e
  · cases i with
    | zero => cases e1
    | succ i => cases e1
  · have z : (match H b with | some (.tbl _) => none | x => x) = some (.tbl ps) := z
    split at z
    · cases z
    · rename_i h; exact h _ z
theorem law_sp {Y : Wd} {f : List (Bool × D) → CRes} {H : Hp} {a : Addr} {ns : List Int} {outs : List Cell} (h : f [(false, .fls (ns.map D.int))] = .ok (.bl true) false outs) (hS : SqL Y.K H a (ns.map V.int)) (hT : LamX.Tabs Y.T H) : spF Y f [.ref a] H (fun v _ => v = .bl true) fun _ _ _ => False := by
  obtain ⟨G, R, S⟩ := Sep.scr hS hT
  refine ⟨G, R, [(false, .fls (ns.map D.int))], S, ?_⟩
  rw [h]
  intro v H' G' s S' o
  have o : Rep Y G' v (.bl true) := o
  cases o
  rfl
end
end L3

/-! L3P: the rules' short names. -/
namespace L3
open PySem PySem.Spec PyProof.Rows L2
section
variable {X : Cx} {Y : Wd} {W : WX} {U : Ev} {a b c e : Expr} {a' b' c' : E} {es : List Expr} {as' : Es} {pos p : Pos}
theorem b_add (hK : X.K = Y.K) (ha : PE X a (rdX Y W U a')) (hb : PE X b (rdX Y W U b')) : PE X (.BinOp a .Add b pos) (rdE Y W U (.op .add (.cons a' (.cons b' .nil)))) := s_bin op_addA rfl (p_add hK) ha hb
theorem b_sub (ha : PE X a (rdX Y W U a')) (hb : PE X b (rdX Y W U b')) : PE X (.BinOp a .Sub b pos) (rdE Y W U (.op .sub (.cons a' (.cons b' .nil)))) := s_bin op_sub rfl p_sub ha hb
theorem b_mul (ha : PE X a (rdX Y W U a')) (hb : PE X b (rdX Y W U b')) : PE X (.BinOp a .Mult b pos) (rdE Y W U (.op .mul (.cons a' (.cons b' .nil)))) := s_bin op_mulA rfl p_mul ha hb
theorem b_rep (hK : X.K = Y.K) (ha : PE X a (rdX Y W U a')) (hb : PE X b (rdX Y W U b')) : PE X (.BinOp a .Mult b pos) (rdE Y W U (.op .rep (.cons a' (.cons b' .nil)))) := s_bin op_repA rfl (p_rep hK) ha hb
theorem b_fdiv (ha : PE X a (rdX Y W U a')) (hb : PE X b (rdX Y W U b')) : PE X (.BinOp a .FloorDiv b pos) (rdE Y W U (.op .fdiv (.cons a' (.cons b' .nil)))) := s_bin op_divA rfl p_fdiv ha hb
theorem b_mod (ha : PE X a (rdX Y W U a')) (hb : PE X b (rdX Y W U b')) : PE X (.BinOp a .Mod b pos) (rdE Y W U (.op .mod (.cons a' (.cons b' .nil)))) := s_bin op_mod rfl p_mod ha hb
theorem b_pow (ha : PE X a (rdX Y W U a')) (hb : PE X b (rdX Y W U b')) : PE X (.BinOp a .Pow b pos) (rdE Y W U (.op .pow (.cons a' (.cons b' .nil)))) := s_bin op_pow rfl p_pow ha hb
theorem b_shl (ha : PE X a (rdX Y W U a')) (hb : PE X b (rdX Y W U b')) : PE X (.BinOp a .LShift b pos) (rdE Y W U (.op .shl (.cons a' (.cons b' .nil)))) := s_bin op_shl rfl p_shl ha hb
theorem b_shr (ha : PE X a (rdX Y W U a')) (hb : PE X b (rdX Y W U b')) : PE X (.BinOp a .RShift b pos) (rdE Y W U (.op .shr (.cons a' (.cons b' .nil)))) := s_bin op_shr rfl p_shr ha hb
theorem b_band (ha : PE X a (rdX Y W U a')) (hb : PE X b (rdX Y W U b')) : PE X (.BinOp a .BitAnd b pos) (rdE Y W U (.op .band (.cons a' (.cons b' .nil)))) := s_bin op_and rfl p_band ha hb
theorem b_bor (ha : PE X a (rdX Y W U a')) (hb : PE X b (rdX Y W U b')) : PE X (.BinOp a .BitOr b pos) (rdE Y W U (.op .bor (.cons a' (.cons b' .nil)))) := s_bin op_or rfl p_bor ha hb
theorem b_bxor (ha : PE X a (rdX Y W U a')) (hb : PE X b (rdX Y W U b')) : PE X (.BinOp a .BitXor b pos) (rdE Y W U (.op .bxor (.cons a' (.cons b' .nil)))) := s_bin op_xor rfl p_bxor ha hb
theorem u_neg (ha : PE X a (rdX Y W U a')) : PE X (.UnaryOp .USub a pos) (rdE Y W U (.op .neg (.cons a' .nil))) := s_un un_neg rfl p_neg ha
/-! ### comparisons: as a value, as a test, as a step of a chain -/
/-- a comparison's operation -/
structure CmpK (X : Cx) (Y : Wd) (W : WX) (op : CmpOp) (o : Op) : Prop where
  r : ∃ r : R2, OpR X (compareOp op) r ∧ P2 Y W o r
  k : o.keeps = false
theorem k_eq (hK : X.K = Y.K) (hu : X.A.units + 64 < cLine) : CmpK X Y W .Eq .eq := ⟨⟨_, op_eqD hu, p_eq hK⟩, rfl⟩
theorem k_ne (hK : X.K = Y.K) (hu : X.A.units + 64 < cLine) : CmpK X Y W .NotEq .ne := ⟨⟨_, op_neD hu, p_ne hK⟩, rfl⟩
theorem k_lt (hK : X.K = Y.K) (hu : X.A.units + 69 < cLine) : CmpK X Y W .Lt .lt := ⟨⟨_, op_ltX hK hu, p_lt⟩, rfl⟩
theorem k_le : CmpK X Y W .LtE .le := ⟨⟨_, op_le, p_le⟩, rfl⟩
theorem k_gt : CmpK X Y W .Gt .gt := ⟨⟨_, op_gt, p_gt⟩, rfl⟩
theorem k_ge : CmpK X Y W .GtE .ge := ⟨⟨_, op_ge, p_ge⟩, rfl⟩
theorem c_e {op : CmpOp} {o : Op} (h : CmpK X Y W op o) (ha : PE X a (rdX Y W U a')) (hb : PE X b (rdX Y W U b')) (hm : behindInMarks op b = false := by first | exact nobehind _ (by decide) (by decide) | rfl) : PE X (.Compare a [op] [b] pos) (rdE Y W U (.op o (.cons a' (.cons b' .nil)))) := by
  obtain ⟨⟨r, h1, h2⟩, hk⟩ := h
  exact s_cmp h1 hk h2 ha hb hm
theorem c_t {op : CmpOp} {o : Op} (h : CmpK X Y W op o) (ha : PE X a (rdX Y W U a')) (hb : PE X b (rdX Y W U b')) (hm : behindInMarks op b = false := by first | exact nobehind _ (by decide) (by decide) | rfl) : PT X (.Compare a [op] [b] pos) (rdT Y W U (.op o (.cons a' (.cons b' .nil)))) := by
  obtain ⟨⟨r, h1, h2⟩, hk⟩ := h
  exact s_cmpT h1 hk h2 ha hb hm
theorem c_chn {op op2 : CmpOp} {o o2 : Op} (h : CmpK X Y W op o) (h2 : CmpK X Y W op2 o2) (ha : PE X a (rdX Y W U a')) (hb : PE X b (rdX Y W U b')) (hc : PE X c (rdX Y W U c')) (hm : lastMarks [op, op2] [b, c] = false := by with_unfolding_all rfl) :
    PE X (.Compare a [op, op2] [b, c] pos) (rdE Y W U (.chn o o2 a' b' c')) := by
  obtain ⟨⟨r, h1, h2'⟩, hk⟩ := h
  obtain ⟨⟨r', h3, h4⟩, hk2⟩ := h2
  exact s_chn h1 h3 hk hk2 h2' h4 ha hb hc hm
/-- x is None, x is not None -/
theorem isN_red {o : Op} {g : V → V} (hk : o.keeps = false) (hp : P1 Y W o (fun x H Q => Q (g x) H)) {r : R2} (hr : ∀ x H Q, Q (g x) H → r x .non H Q) {σ : L2.St} {H : Hp} {Q : VK} (h : rdE Y W U (.op o (.cons a' .nil)) σ H Q) :
    tOp r (rdX Y W U a') (tC .non) σ H Q := by
  obtain ⟨G, R, en, S, p⟩ := h
  refine ⟨G, R, en, S, ?_⟩
  rw [evE_op1] at p
  refine Pst.bind p fun x en1 v H1 G1 _ s1 k1 S1 o1 p1 => ?_
  exact hr v H1 Q (prim_fin hp S1 (vs := [v]) (avs := [x]) ⟨o1, trivial⟩ p1 hk v rfl)
theorem c_isN {j : Nat} {p2 : Pos} (ha : PE X a (rdX Y W U a')) : PE X (.Compare a [.Is] [.Constant .none j p2] pos) (rdE Y W U (.op .isN (.cons a' .nil))) :=
  (pe_cmpR op_isN ha pe_non rfl).imp fun _ _ _ q => isN_red (g := fun x => .bl (decide (x = .non))) rfl p_isN (fun _ _ _ h => ⟨rfl, h⟩) q
theorem c_notN {j : Nat} {p2 : Pos} (ha : PE X a (rdX Y W U a')) : PE X (.Compare a [.IsNot] [.Constant .none j p2] pos) (rdE Y W U (.op .notN (.cons a' .nil))) :=
  (pe_cmpR op_notN ha pe_non rfl).imp fun _ _ _ q => isN_red (g := fun x => .bl (!decide (x = .non))) rfl p_notN (fun _ _ _ h => ⟨rfl, h⟩) q
theorem rdT_of {m : E} {σ : L2.St} {H : Hp} {Q : Bool → Hp → Prop} (h : rdT Y W U m σ H Q) : rdE Y W U m σ H fun v H1 => ∃ c, v = .bl c ∧ Q c H1 := by
  obtain ⟨G, R, en, S, p⟩ := h
  exact ⟨G, R, en, S, toB_bind p⟩
theorem t_isN {j : Nat} {p2 : Pos} (ha : PE X a (rdX Y W U a')) : PT X (.Compare a [.Is] [.Constant .none j p2] pos) (rdT Y W U (.op .isN (.cons a' .nil))) :=
  (pt_cmpR op_isN ha pe_non rfl).imp fun _ _ _ q => isN_red (g := fun x => .bl (decide (x = .non))) rfl p_isN (fun _ _ _ h => ⟨rfl, h⟩) (rdT_of q)
theorem t_notN {j : Nat} {p2 : Pos} (ha : PE X a (rdX Y W U a')) : PT X (.Compare a [.IsNot] [.Constant .none j p2] pos) (rdT Y W U (.op .notN (.cons a' .nil))) :=
  (pt_cmpR op_notN ha pe_non rfl).imp fun _ _ _ q => isN_red (g := fun x => .bl (!decide (x = .non))) rfl p_notN (fun _ _ _ h => ⟨rfl, h⟩) (rdT_of q)
theorem t_chn {op op2 : CmpOp} {o o2 : Op} (h : CmpK X Y W op o) (h2 : CmpK X Y W op2 o2) (ha : PE X a (rdX Y W U a')) (hb : PE X b (rdX Y W U b')) (hc : PE X c (rdX Y W U c')) (hm : lastMarks [op, op2] [b, c] = false := by with_unfolding_all rfl) :
    PT X (.Compare a [op, op2] [b, c] pos) (rdT Y W U (.chn o o2 a' b' c')) := by
  obtain ⟨⟨r, h1, h2'⟩, hk⟩ := h
  obtain ⟨⟨r', h3, h4⟩, hk2⟩ := h2
  refine (pt_chain h1 h3 ha hb hc hm).imp fun σ H Q q => ?_
  obtain ⟨G, R, en, S, p⟩ := rdT_of q
  refine ⟨G, R, en, S, ?_⟩
  rw [evE] at p
  refine Pst.bind p fun x en1 v H1 G1 _ s1 k1 S1 o1 p1 => rd.mk S1 (Pst.bind p1 fun y en2 u H2 G2 _ s2 k2 S2 o2' p2 => ?_)
  have q : Pst Y W okB G2 R σ en2 (toB (opFin o [x, y] en2)) fun k H3 => if k = true then rdX Y W U c' σ H3 fun w H4 => r' u w H4 fun v H1 => ∃ c, v = .bl c ∧ Q c H1 else ∃ c, V.bl false = .bl c ∧ Q c H3 := by
    refine Pst.bind p2 fun k en3 k' H3 G3 _ s3 k3 S3 o3 p3 => ?_
    cases (show k' = k from o3)
    cases k with
    | true =>
      rw [if_pos rfl] at p3 ⊢
      exact rd.mk S3 (Pst.bind p3 fun z en4 w H4 G4 _ s4 k4 S4 o4 p4 => prim_fin h4 S4 (vs := [u, w]) (avs := [y, z]) ⟨Aok.mono (en := en3) (en' := en4) (Aok.mono (en' := en3) o2' s3) s4, o4, trivial⟩ p4 hk2 u w rfl)
    | false =>
      rw [if_neg (by decide)] at p3 ⊢
      exact p3 (.bl false) H3 G3 (Same.refl _) (Keep.refl _ _) S3 (.bl false)
  exact opB_fin hk h2' S2 (Aok.mono (en' := en2) o1 s2) o2' q
/-- and, or as a test -/
theorem t_pw {t : TT} (h : L2.PW X e t) : PT X e t := h.pt
/-- an argument that is evaluated -/
theorem x_e (h : PE X e (rdE Y W U a')) (hm : ∀ i, a' ≠ .pk i := by intro i z; cases z) : PE X e (rdX Y W U a') := x_of h hm
/-- a number of the module -/
theorem s_glbI {x : Str} {i : Int} (hm : ∃ t, X.mg x = some (.int i t)) (hg : Gl X x := by rfl) (hd : (x == ("__debug__" : Str)) = false := by decide) : PE X (.Name x pos) (rdE Y W U (.op (.glb (.int i)) .nil)) := by
  obtain ⟨t, ht⟩ := hm
  exact s_glb (v := .int i) hg ht ⟨t, rfl⟩ (fun _ => .int i) hd
/-! ### built-ins -/
theorem bt_len : bootBuiltins "len" = some (.builtin "len") := by decide +kernel
theorem bt_abs : bootBuiltins "abs" = some (.builtin "abs") := by decide +kernel
theorem bt_sum : bootBuiltins "sum" = some (.builtin "sum") := by decide +kernel
theorem bt_any : bootBuiltins "any" = some (.builtin "any") := by decide +kernel
theorem bt_all : bootBuiltins "all" = some (.builtin "all") := by decide +kernel
theorem bt_min : bootBuiltins "min" = some (.builtin "min") := by decide +kernel
theorem bt_max : bootBuiltins "max" = some (.builtin "max") := by decide +kernel
theorem bt_int : bootBuiltins "int" = some (.type "int") := by decide +kernel
theorem bt_tup : bootBuiltins "tuple" = some (.type "tuple") := by decide +kernel
theorem bt_lst : bootBuiltins "list" = some (.type "list") := by decide +kernel
theorem f_len (hK : X.K = Y.K) (hm : X.mg "len" = none) (ha : PE X a (rdX Y W U a')) (hg : Gl X "len" := by rfl) (he : starEach [a] X.env = (false, eval a X.env) :: starEach [] X.env := by rfl) : PE X (.Call (.Name "len" p) [a] [] pos) (rdE Y W U (.op .len (.cons a' .nil))) :=
  s_callB call_len_seq rfl (p_len hK) hm bt_len (a_cons ha a_nil he) hg (by decide) (by decide) he rfl
theorem f_abs (hm : X.mg "abs" = none) (ha : PE X a (rdX Y W U a')) (hg : Gl X "abs" := by rfl) (he : starEach [a] X.env = (false, eval a X.env) :: starEach [] X.env := by rfl) : PE X (.Call (.Name "abs" p) [a] [] pos) (rdE Y W U (.op .abs (.cons a' .nil))) :=
  s_callB call_abs rfl p_abs hm bt_abs (a_cons ha a_nil he) hg (by decide) (by decide) he rfl
theorem f_int (hm : X.mg "int" = none) (ha : PE X a (rdX Y W U a')) (hg : Gl X "int" := by rfl) (he : starEach [a] X.env = (false, eval a X.env) :: starEach [] X.env := by rfl) : PE X (.Call (.Name "int" p) [a] [] pos) (rdE Y W U (.op .int (.cons a' .nil))) :=
  s_callTy call_int1 rfl p_int hm bt_int (a_cons ha a_nil he) hg (by decide) (by decide) he rfl
theorem f_sum (hc : X.calm = true) (hm : X.mg "sum" = none) (ha : PE X a (rdX Y W U a')) (hg : Gl X "sum" := by rfl) (he : starEach [a] X.env = (false, eval a X.env) :: starEach [] X.env := by rfl) : PE X (.Call (.Name "sum" p) [a] [] pos) (rdE Y W U (.op .sum (.cons a' .nil))) :=
  s_callB (cr_sum hc) rfl p_sum hm bt_sum (a_cons ha a_nil he) hg (by decide) (by decide) he rfl
theorem f_any (hc : X.calm = true) (hm : X.mg "any" = none) (ha : PE X a (rdX Y W U a')) (hg : Gl X "any" := by rfl) (he : starEach [a] X.env = (false, eval a X.env) :: starEach [] X.env := by rfl) : PE X (.Call (.Name "any" p) [a] [] pos) (rdE Y W U (.op .any (.cons a' .nil))) :=
  s_callB (cr_any hc) rfl p_any hm bt_any (a_cons ha a_nil he) hg (by decide) (by decide) he rfl
theorem f_all (hc : X.calm = true) (hm : X.mg "all" = none) (ha : PE X a (rdX Y W U a')) (hg : Gl X "all" := by rfl) (he : starEach [a] X.env = (false, eval a X.env) :: starEach [] X.env := by rfl) : PE X (.Call (.Name "all" p) [a] [] pos) (rdE Y W U (.op .all (.cons a' .nil))) :=
  s_callB (cr_all hc) rfl p_all hm bt_all (a_cons ha a_nil he) hg (by decide) (by decide) he rfl
theorem f_min (hc : X.calm = true) (hm : X.mg "min" = none) (ha : PE X a (rdX Y W U a')) (hg : Gl X "min" := by rfl) (he : starEach [a] X.env = (false, eval a X.env) :: starEach [] X.env := by rfl) : PE X (.Call (.Name "min" p) [a] [] pos) (rdE Y W U (.op .min (.cons a' .nil))) :=
  s_callB (cr_min hc) rfl p_min hm bt_min (a_cons ha a_nil he) hg (by decide) (by decide) he rfl
theorem f_max (hc : X.calm = true) (hK : X.K = Y.K) (hm : X.mg "max" = none) (ha : PE X a (rdX Y W U a')) (hg : Gl X "max" := by rfl) (he : starEach [a] X.env = (false, eval a X.env) :: starEach [] X.env := by rfl) : PE X (.Call (.Name "max" p) [a] [] pos) (rdE Y W U (.op .max (.cons a' .nil))) :=
  s_callB (cr_maxLT hc) rfl (p_max hK) hm bt_max (a_cons ha a_nil he) hg (by decide) (by decide) he rfl
theorem f_tupOf (hK : X.K = Y.K) (hm : X.mg "tuple" = none) (ha : PE X a (rdX Y W U a')) (hg : Gl X "tuple" := by rfl) (he : starEach [a] X.env = (false, eval a X.env) :: starEach [] X.env := by rfl) : PE X (.Call (.Name "tuple" p) [a] [] pos) (rdE Y W U (.op .tupOf (.cons a' .nil))) :=
  s_callTy call_tuple_of rfl (p_tupOf hK) hm bt_tup (a_cons ha a_nil he) hg (by decide) (by decide) he rfl
theorem f_lstOf (hK : X.K = Y.K) (hm : X.mg "list" = none) (ha : PE X a (rdX Y W U a')) (hg : Gl X "list" := by rfl) (he : starEach [a] X.env = (false, eval a X.env) :: starEach [] X.env := by rfl) : PE X (.Call (.Name "list" p) [a] [] pos) (rdE Y W U (.op .lstOf (.cons a' .nil))) :=
  s_callTy call_list_of rfl (p_lstOf hK) hm bt_lst (a_cons ha a_nil he) hg (by decide) (by decide) he rfl
theorem f_min2 (hc : X.calm = true) (hm : X.mg "min" = none) (ha : PE X a (rdX Y W U a')) (hb : PE X b (rdX Y W U b')) (hg : Gl X "min" := by rfl) (he : starEach [a, b] X.env = (false, eval a X.env) :: starEach [b] X.env := by rfl) (he2 : starEach [b] X.env = (false, eval b X.env) :: starEach [] X.env := by rfl)
    (hpl : (backTo pos (starEach [b] X.env)).any (·.1) = false := by rfl) : PE X (.Call (.Name "min" p) [a, b] [] pos) (rdE Y W U (.op .min2 (.cons a' (.cons b' .nil)))) :=
  s_callB (call_min2 hc) rfl p_min2 hm bt_min (a_cons ha (a_cons hb a_nil he2) he) hg (by decide) (by decide) he hpl
theorem f_max2 (hc : X.calm = true) (hm : X.mg "max" = none) (ha : PE X a (rdX Y W U a')) (hb : PE X b (rdX Y W U b')) (hg : Gl X "max" := by rfl) (he : starEach [a, b] X.env = (false, eval a X.env) :: starEach [b] X.env := by rfl) (he2 : starEach [b] X.env = (false, eval b X.env) :: starEach [] X.env := by rfl)
    (hpl : (backTo pos (starEach [b] X.env)).any (·.1) = false := by rfl) : PE X (.Call (.Name "max" p) [a, b] [] pos) (rdE Y W U (.op .max2 (.cons a' (.cons b' .nil)))) :=
  s_callB (call_max2 hc) rfl p_max2 hm bt_max (a_cons ha (a_cons hb a_nil he2) he) hg (by decide) (by decide) he hpl
/-! ### enumerate, reversed -/
theorem i_enm {elts : List Expr} {kk : Nat} {tpos : Pos} (hK : X.K = Y.K) (hm : X.mg "enumerate" = none) (ha : PE X a (rdX Y W U a')) (hg : Gl X "enumerate" := by rfl) (hs : starEach [a] X.env = (false, eval a X.env) :: starEach [] X.env := by rfl) :
    PI X (.Tuple elts kk tpos) (.Call (.Name "enumerate" p) [a] [] pos) (rdI Y W U .enm (.cons a' .nil)) := by
  refine (pi_enumLT hg hm (a_cons ha a_nil hs) hs).imp fun σ H RR ⟨G, R, en, S, q⟩ => ⟨G, R, en, S, itFin_bind q fun G1 H1 en1 vs ds items s S1 r e f => ?_⟩
  match ds, e with
  | [.lst ds], e =>
    obtain ⟨v, rfl, hv⟩ := repL1 r
    cases hv with | lst h1 h2 =>
      cases e
      have hq : SqL Y.K G1 _ _ := .inl (.inl h1)
      exact ⟨_, _, rfl, .inl ⟨by rw [hK]; exact S1.gH.seq hq, by rw [hK]; exact f _ (gives_enm hq h2)⟩⟩
  | [.tup ds], e =>
    obtain ⟨v, rfl, hv⟩ := repL1 r
    cases hv with | tup h1 h2 =>
      cases e
      exact ⟨_, _, rfl, .inr ⟨by rw [hK]; exact Same.seqT S1.gH h1, by rw [hK]; exact f _ (gives_enmT h1 h2)⟩⟩
  | [], e => cases e
  | [.non], e | [.bl _], e | [.int _], e | [.str _], e | [.fls _], e | [.dct _ _], e | [.set _], e | [.obj _ _ _], e | [.exc _ _ _], e | [.thk _ _], e => cases e
  | z :: _ :: _, e => cases z <;> cases e
end
end L3

/-! L3Q: what a law's file asks. -/
namespace L3
open PySem PySem.Spec PyProof.Rows L2
theorem _root_.L2.Room.u69 {k : Nat} {A : Around} (r : Room k A) : A.units + 69 < cLine := by have := r.un; omega
theorem u64 {u : Nat} (h : u + 69 < cLine) : u + 64 < cLine := by omega
theorem u65 {u : Nat} (h : u + 69 < cLine) : u + 65 < cLine := by omega
/-- a def as its callers see it -/
structure DefOk (K : PySem.W.Frag) (mg : Str → Option Value) (x : Str) (at_ : Str × Option Str) (ps : List Str) : Prop where
  hm : mg x = some (.ref (He.fAd K at_))
  hk : PySem.W.keepIn K (.ref (He.fAd K at_)) = true
  hb : Binds K (fdOf K at_) ps []
section
variable {X : Cx} {Y : Wd} {W : WX} {U : Ev}
theorem s_callD {f k : Nat} {at_ : Str × Option Str} {ps : List Str} {x : Str} {p pos : Pos} {e : Expr} {es : List Expr} {as' : Es} (F : FnOk X.prog X.w X.K X.mg X.base (L2.CX X.prog X.w) k (He.fAd X.K at_) (fdOf X.K at_) ps (spF Y (U.C f))) (D : DefOk X.K X.mg x at_ ps) (hr : Room k X.A) (tk : Takes X W)
    (ha : PA X (e :: es) (rdA Y W U as')) (hg : Gl X x := by rfl) (hdb : (x == ("__debug__" : Str)) = false := by decide) (he : starEach (e :: es) X.env = (false, eval e X.env) :: starEach es X.env := by rfl) (hpl : (backTo pos (starEach es X.env)).any (·.1) = false := by rfl) :
    PE X (.Call (.Name x p) (e :: es) [] pos) (rdE Y W U (.call f as')) := s_call F hr D.hm D.hk D.hb tk ha hg hdb he hpl
/-- the def that tries, as its callers see it -/
structure WordOk (K : PySem.W.Frag) (mg : Str → Option Value) (x : Str) (g : Addr) (pg : Arguments) (bg : List Stmt) (sg : Scope) (a : Str) : Prop where
  hm : mg x = some (.ref g)
  hk : PySem.W.keepIn K (.ref g) = true
  ex : ∃ (oc : Value) (od : Option Addr) (dV kV doc pm : Value) (an : Option Addr) (cdv ct : Value) (osl : Array (Option Value)), K.lookup g = some ⟨oc, od, .func (PySem.W.fnOf x x pg bg sg dV kV doc pm an cdv ct), osl⟩ ∧ PySem.W.codeIn K cdv x = true ∧ Binds K (PySem.W.fnOf x x pg bg sg dV kV doc pm an cdv ct) [a] []
theorem WordOk.of {K : PySem.W.Frag} {mg : Str → Option Value} {x : Str} {at_ : Str × Option Str} {pg : Arguments} {bg : List Stmt} {sg : Scope} {a : Str} (F : FunD K x x pg bg sg [] [] (He.fAd K at_) (fdOf K at_)) (D : DefOk K mg x at_ [a]) : WordOk K mg x (He.fAd K at_) pg bg sg a := by
  obtain ⟨oc, od, dV, kV, doc, pm, an, cdv, ct, osl, e, lk, hcd, _, _⟩ := F.ex
  have hb := D.hb
  rw [e] at lk hb
  exact ⟨D.hm, D.hk, oc, od, dV, kV, doc, pm, an, cdv, ct, osl, lk, hcd, hb⟩
theorem hu_of {T : List (Addr × Str)} {P : Addr} {q : Str} : (T.map (·.1)).Nodup → (P, q) ∈ T → ∀ p ∈ T, p.1 = P → p.2 = q := fun nd hm p hp e => by
  induction T with
  | nil => cases hm
  | cons t T ih =>
    rw [List.map_cons, List.nodup_cons] at nd
    rcases List.mem_cons.mp hm with h1 | h1
    · rcases List.mem_cons.mp hp with h2 | h2
      · rw [h2, ← h1]
      · exact absurd (List.mem_map.mpr ⟨p, h2, by rw [e, ← h1]⟩) nd.1
    · rcases List.mem_cons.mp hp with h2 | h2
      · exact absurd (List.mem_map.mpr ⟨(P, q), h1, by rw [← h2, e]⟩) nd.1
      · exact ih nd.2 h1 h2
theorem s_lamD {f : Nat} {e' : E} {x a : Str} {g c P : Addr} {k : Nat} {pg : Arguments} {bg : List Stmt} {sg : Scope} {Ng : List Str} {params : Arguments} {body : Expr} {scope : Scope} {p lpos pos : Pos}
    (D : WordOk X.K X.mg x g pg bg sg a) (Sg : FnScope Ng [a] sg) (hG : ∀ cdv, (∀ args, U.C f args = .bad) ∨ LamX.GivesTo X Ng x sg g cdv bg a (X.env.qual ++ "<lambda>") (TTw Y (U.C f)))
    (TB : LamX.TabB X.base X.mg c P) (hcode : X.env.code = .ref c) (hmT : (P, X.env.qual ++ "<lambda>") ∈ Y.T) (nd : (Y.T.map (·.1)).Nodup) (hr : Room (k + 2) X.A)
    (hbody : ∀ (A : Around) (outer : List Env) (s : Shared) (H : Hp) (E : XK) (f c' : Addr), Room k (A.deeper (LamX.lamEnv X scope s.heap.objs.size f c')) → PE (LamX.lamCx X A outer s H E scope f c') body (rdE Y (wE E) U e'))
    (hg : Gl X x := by rfl) (hNg : Ng[0]? = some a := by rfl) (hva : Vis sg a := by first | exact Or.inl rfl | exact Or.inr (Or.inl rfl) | exact Or.inr (Or.inr rfl)) (L : LamX.lamSB X.env.scope scope = true := by rfl) (hdef : defaultsOf params X.env = ([], []) := by rfl)
    (hbind : ∀ (q : Str) (cl : List (Str × Addr)) (pm cv ctv : Value), bindArgs (PySem.W.kla_fn "<lambda>" q params body scope cl pm cv ctv) ⟨[], []⟩ = pure [] := by intro _ _ _ _ _; rfl)
    (hdb : (x == ("__debug__" : Str)) = false := by decide) (hd : (a == ("__debug__" : Str)) = false := by decide) (hcd : (a == ("__classdict__" : Str)) = false := by decide) :
    PE X (.Call (.Name x p) [.Lambda params body scope lpos] [] pos) (rdE Y W U (.lam f e')) := by
  obtain ⟨oc, od, dV, kV, doc, pm, an, cdv, ct, osl, lk, hcg, hb⟩ := D.ex
  exact s_lam hg D.hm D.hk lk hcg hb Sg hNg hva (hG cdv) TB hcode hmT (hu_of nd hmT) hr (LamX.lamS_by L) hdef hbind hbody hdb hd hcd
end
/-- a def that is never reached -/
theorem bad_ok {P : Program} {w : World} {K : PySem.W.Frag} {mg : Str → Option Value} {base : Heap} {Y : Wd} {x qual : Str} {params : Arguments} {body : List Stmt} {scope : Scope} {f : Addr} {fd : FuncData} {N ps : List Str} {k i wf : Nat} {T : List Fn}
    (F : FunD K x qual params body scope [] [] f fd) (S : FnScope N ps scope) : FnOk P w K mg base (L2.CX P w) (k + 1) f fd ps (spF Y (callD T wf 0 i)) := by
  have no : ∀ vs H Q E, spF Y (callD T wf 0 i) vs H Q E → False := fun vs H Q E ⟨G, R, args, _, p⟩ => p
  exact F.ok S (fun vs H Q E h => (no _ _ _ _ h).elim) fun cdv A outer s H vs Q E hr h => (no _ _ _ _ h).elim
/-- no class of instances -/
theorem isC0 {Y : Wd} {K : PySem.W.Frag} (h : ∀ c, ¬ Y.ok c) : IsC Y K := ⟨fun c hc => (h c hc).elim, fun _ c _ hc => (h c hc).elim, fun c _ hc => (h c hc).elim, fun c _ hc => (h c hc).elim⟩
theorem fdOf_is {K : PySem.W.Frag} {d : He.DefD} {fd : FuncData} (F : FunD K d.name d.qual d.params d.body d.scope (d.dvs K) (d.kws K) (He.fAd K d.at_) fd) : FunD K d.name d.qual d.params d.body d.scope (d.dvs K) (d.kws K) (He.fAd K d.at_) (fdOf K d.at_) := by
  rw [fdOf_eq F]; exact F
theorem nmi {X : Cx} {i : Nat} {x : Str} (h1 : X.N[i]? = some x := by rfl) (h2 : Loc X.env.scope x := by first | exact Or.inl rfl | exact Or.inr rfl) (h3 : X.fn x = true ∨ X.env.scope.names.lookup x = some .local := by first | exact Or.inl rfl | exact Or.inr rfl) : NmI X i x := ⟨h1, h2, h3⟩
end L3

/-! L3T: more operations: {}, sorted. -/
namespace L3
open PySem PySem.Spec PyProof.Rows L2
section
variable {X : Cx} {Y : Wd} {W : WX} {U : Ev} {a b c e : Expr} {a' b' c' : E} {pos p : Pos}
theorem s_dnew : PE X (.Dict [] [] pos) (rdE Y W U (.op .dnew .nil)) := pe_dnewK.imp fun σ H Q ⟨G, R, en, S, q⟩ => by
  rw [evE_op, evA] at q
  exact prim_fin (p_dnew (Y := Y) (W := W)) S (vs := []) (avs := []) trivial q rfl
theorem insI_perm (x : Int) : ∀ l : List Int, (insI x l).Perm (x :: l)
  | [] => .refl _
  | y :: r => by
    unfold insI
    split
    · exact .refl _
    · exact ((insI_perm x r).cons y).trans (.swap x y r)
theorem sortI_perm : ∀ l : List Int, (sortI l).Perm l
  | [] => .refl _
  | x :: r => (insI_perm x (sortI r)).trans ((sortI_perm r).cons x)
theorem insI_sorted (x : Int) : ∀ l : List Int, l.Pairwise (· ≤ ·) → (insI x l).Pairwise (· ≤ ·)
  | [], _ => by simp [insI]
  | y :: r, h => by
    unfold insI
    rw [List.pairwise_cons] at h
    split
    · rename_i hxy
      rw [List.pairwise_cons]
      refine ⟨fun z hz => ?_, List.pairwise_cons.mpr h⟩
      rcases List.mem_cons.mp hz with rfl | hz
      · exact hxy
      · exact Int.le_trans hxy (h.1 z hz)
    · rename_i hxy
      rw [List.pairwise_cons]
      refine ⟨fun z hz => ?_, insI_sorted x r h.2⟩
      rcases List.mem_cons.mp ((insI_perm x r).mem_iff.mp hz) with rfl | hz
      · omega
      · exact h.1 z hz
theorem sortI_sorted : ∀ l : List Int, (sortI l).Pairwise (· ≤ ·)
  | [] => .nil
  | x :: r => insI_sorted x _ (sortI_sorted r)
/-- what is sorted, is one -/
theorem sorted_one : ∀ {l m : List Int}, l.Perm m → l.Pairwise (· ≤ ·) → m.Pairwise (· ≤ ·) → l = m := fun h1 h2 h3 => h1.eq_of_pairwise (fun a b _ _ h4 h5 => Int.le_antisymm h4 h5) h2 h3
theorem bt_srt : bootBuiltins "sorted" = some (.builtin "sorted") := by decide +kernel
theorem p_srt : PrimN Y W .srt (rSortedI X.K) := C1.lst (fun _ => rfl) fun G R H σ en a vs ds p Q S h r e pq => by
  cases q : asI ds with
  | none => rw [q] at e; cases e
  | some is =>
    rw [q] at e
    cases e
    have ev := r.asI q
    subst ev
    refine ⟨a, is, rfl, .inl (.inl h), fun ns' p hp hs hn => ?_⟩
    have : ns' = sortI is := sorted_one (hp.trans (sortI_perm is).symm) hs (sortI_sorted is)
    subst this
    exact fin_own S pq hn (.lst upd_same (RepL.ofInts _))
theorem f_srt (hm : X.mg "sorted" = none) (ha : PE X a (rdX Y W U a')) (hg : Gl X "sorted" := by rfl) (he : starEach [a] X.env = (false, eval a X.env) :: starEach [] X.env := by rfl) : PE X (.Call (.Name "sorted" p) [a] [] pos) (rdE Y W U (.op .srt (.cons a' .nil))) :=
  s_callB cr_sortedI rfl p_srt hm bt_srt (a_cons ha a_nil he) hg (by decide) (by decide) he rfl
/-! ### x in l, x not in l: lists and tuples of data -/
def rInX (K : PySem.W.Frag) (neg : Bool) : R2 := fun x y H Q => ∃ (d : PyData) (ds : List PyData), Dp K H x d ∧ (Dp K H y (.list ds) ∨ Dp K H y (.tuple ds)) ∧ SeqAt.shaped d = true ∧ SeqAt.shaped (.list ds) = true ∧ Q (.bl (if neg then !(ds.any fun z => PyData.eqv z d) else ds.any fun z => PyData.eqv z d)) H
theorem op_inX (hu : X.A.units + 65 < cLine) : OpR X (compareOp .In) (rInX X.K false) := by
  intro pins s σ H x y v u Q I rx ry ⟨d, ds, hd, he, sd, se, q⟩
  obtain ⟨as, r1⟩ := Dp.reads I d x v hd rx
  rcases he with he | he
  · obtain ⟨bs, r2⟩ := Dp.reads I (.list ds) y u he ry
    exact SeqAt.in_list_reads r2 r1 (SeqAt.canLay_of_shaped se) (SeqAt.canLay_of_shaped sd) (room_in_shaped sd hu) ⟨.bl _, H, I, rfl, q⟩
  · obtain ⟨bs, r2⟩ := Dp.reads I (.tuple ds) y u he ry
    exact SeqAt.in_tuple_reads r2 r1 (SeqAt.canLay_of_shaped se) (SeqAt.canLay_of_shaped sd) (room_in_shaped sd hu) ⟨.bl _, H, I, rfl, q⟩
theorem op_ninX (hu : X.A.units + 65 < cLine) : OpR X (compareOp .NotIn) (rInX X.K true) := by
  intro pins s σ H x y v u Q I rx ry ⟨d, ds, hd, he, sd, se, q⟩
  obtain ⟨as, r1⟩ := Dp.reads I d x v hd rx
  rcases he with he | he
  · obtain ⟨bs, r2⟩ := Dp.reads I (.list ds) y u he ry
    exact SeqAt.notIn_list_reads r2 r1 (SeqAt.canLay_of_shaped se) (SeqAt.canLay_of_shaped sd) (room_in_shaped sd hu) ⟨.bl _, H, I, rfl, q⟩
  · obtain ⟨bs, r2⟩ := Dp.reads I (.tuple ds) y u he ry
    exact SeqAt.notIn_tuple_reads r2 r1 (SeqAt.canLay_of_shaped se) (SeqAt.canLay_of_shaped sd) (room_in_shaped sd hu) ⟨.bl _, H, I, rfl, q⟩
theorem inP_some {x y : D} {b : Bool} (e : inP x y = some b) : ∃ q qs, toPy x = some q ∧ (toPy y = some (.list qs) ∨ toPy y = some (.tuple qs)) ∧ SeqAt.shaped q = true ∧ SeqAt.shaped (.list qs) = true ∧ b = qs.any fun z => PyData.eqv z q := by
  unfold inP at e
  split at e
  · rename_i q qs e1 e2
    split at e
    · rename_i h
      cases e
      obtain ⟨h1, h2⟩ := Bool.and_eq_true_iff.mp h
      exact ⟨q, qs, e1, .inl e2, h2, h1, rfl⟩
    · cases e
  · rename_i q qs e1 e2
    split at e
    · rename_i h
      cases e
      obtain ⟨h1, h2⟩ := Bool.and_eq_true_iff.mp h
      exact ⟨q, qs, e1, .inr e2, h2, h1, rfl⟩
    · cases e
  · cases e
theorem p_inn (hK : X.K = Y.K) : P2 Y W .inn (rInX X.K false) := .mk fun G R H σ en x y ds p Q S hp e pq => by
  match ds, hp, e with
  | [d, d'], hp, e =>
    obtain ⟨k1, k2, _⟩ := hp
    obtain ⟨b, e1, rfl⟩ := oB_some (show oB (inP d d') = some p from e)
    obtain ⟨q, qs, h1, h2, h3, h4, rfl⟩ := inP_some e1
    exact ⟨q, qs, k1.dp hK S h1, h2.elim (fun h => .inl (k2.dp hK S h)) (fun h => .inr (k2.dp hK S h)), h3, h4, fin_sh S pq (.bl _)⟩
  | [], hp, _ => exact hp.elim
  | [_], hp, _ => exact hp.2.elim
  | _ :: _ :: _ :: _, hp, _ => exact hp.2.2.elim
theorem p_nin (hK : X.K = Y.K) : P2 Y W .nin (rInX X.K true) := .mk fun G R H σ en x y ds p Q S hp e pq => by
  match ds, hp, e with
  | [d, d'], hp, e =>
    obtain ⟨k1, k2, _⟩ := hp
    obtain ⟨b, e1, rfl⟩ := oB_some (show oB ((inP d d').map (! ·)) = some p from e)
    obtain ⟨c, e2, rfl⟩ := map_some e1
    obtain ⟨q, qs, h1, h2, h3, h4, rfl⟩ := inP_some e2
    exact ⟨q, qs, k1.dp hK S h1, h2.elim (fun h => .inl (k2.dp hK S h)) (fun h => .inr (k2.dp hK S h)), h3, h4, fin_sh S pq (.bl _)⟩
  | [], hp, _ => exact hp.elim
  | [_], hp, _ => exact hp.2.elim
  | _ :: _ :: _ :: _, hp, _ => exact hp.2.2.elim
theorem k_inn (hK : X.K = Y.K) (hu : X.A.units + 65 < cLine) : CmpK X Y W .In .inn := ⟨⟨_, op_inX hu, p_inn hK⟩, rfl⟩
theorem k_nin (hK : X.K = Y.K) (hu : X.A.units + 65 < cLine) : CmpK X Y W .NotIn .nin := ⟨⟨_, op_ninX hu, p_nin hK⟩, rfl⟩
end
end L3

/-! L3V: t[::-1] of a tuple. -/
namespace HT
open PySem PySem.Spec PySem.Calls PyProof.Rows
section
variable {prog : Program} {w : World} {A : Around} {E : Value → Shared → Prop} {s : Shared}
theorem rev_adjust (n : Nat) : Builtin.Slice.sliceAdjust none none (-1) (n : Int) = ((n : Int) - 1, -1) := by
  unfold Builtin.Slice.sliceAdjust
  simp
theorem rev_places (n : Nat) : Builtin.Slice.slicePlaces ((n : Int) - 1) (-1) (-1) = n := by
  unfold Builtin.Slice.slicePlaces
  simp
  omega
theorem rev_applied {sl : Addr} {vl vu vs : Value} {n : Nat} {Q : Int × Int × Nat → Shared → Prop} (hs : s.heap.IsSliceOf sl vl vu vs) (pl : IsPart vl none) (pu : IsPart vu none) (ps : IsPart vs (some (-1)))
    (h : Q ((n : Int) - 1, -1, n) s) : wpAny (model prog w) A (Builtin.Slice.sliceApplied (.ref sl) (pure (n : Int))) Q E s := by
  obtain ⟨os, hos, hcs, hds⟩ := id hs
  unfold Builtin.Slice.sliceApplied Builtin.Slice.sliceFields
  refine wpAny_bind (wpAny_bind (wpAny_field hos hds (x := vl) rfl (wpAny_bind (wpAny_field hos hds (x := vu) rfl (wpAny_bind (wpAny_field hos hds (x := vs) rfl (wpAny_pure ?_)))))))
  refine wpAny_bind (slicePart_ ps ?_)
  show wpAny _ _ (if ((-1 : Int) == 0) = true then _ else _) _ _ s
  rw [if_neg (by decide)]
  refine wpAny_bind (slicePart_ pl (wpAny_bind (slicePart_ pu (wpAny_bind (wpAny_pure ?_)))))
  show wpAny _ _ (match Builtin.Slice.sliceAdjust none none (-1) (n : Int) with | (lo, hi) => pure (lo, (-1 : Int), Builtin.Slice.slicePlaces lo hi (-1))) _ _ s
  rw [rev_adjust]
  show wpAny _ _ (pure ((n : Int) - 1, (-1 : Int), Builtin.Slice.slicePlaces ((n : Int) - 1) (-1) (-1))) _ _ s
  rw [rev_places]
  exact wpAny_pure h
theorem rev_pick (xs : Array Value) : ((List.range xs.size).filterMap fun (m : Nat) => xs[(((xs.size : Int) - 1) + (m : Int) * (-1)).toNat]?).toArray = xs.toList.reverse.toArray := by
  congr 1
  apply List.ext_getElem?
  intro i
  have key : ∀ k, k ≤ xs.size → (List.range k).filterMap (fun (m : Nat) => xs[(((xs.size : Int) - 1) + (m : Int) * (-1)).toNat]?) = (xs.toList.reverse).take k := by
    intro k
    induction k with
    | zero => intro _; simp
    | succ k ih =>
      intro hk
      rw [List.range_succ, List.filterMap_append, ih (by omega)]
      have e1 : (((xs.size : Int) - 1) + (k : Int) * (-1)).toNat = xs.size - 1 - k := by omega
      have e2 : xs[(((xs.size : Int) - 1) + (k : Int) * (-1)).toNat]? = some xs[xs.size - 1 - k] := by
        rw [e1]; exact Array.getElem?_eq_getElem (by omega)
      rw [List.filterMap_cons, e2]
      have e3 : k < xs.toList.reverse.length := by simp; omega
      rw [List.take_succ_eq_append_getElem e3]
      simp
  rw [key _ (Nat.le_refl _), List.take_of_length_le (by simp)]
theorem getItem_tuple_rev {t sl : Addr} {items : Array Value} {vl vu vs : Value} {Q : Value → Shared → Prop} (ht : IsTup s.heap t items) (hs : s.heap.IsSliceOf sl vl vu vs) (pl : IsPart vl none) (pu : IsPart vu none) (ps : IsPart vs (some (-1)))
    (h : Q (.ref s.heap.objs.size) { s with heap := s.heap.push { cls := .type "tuple", data := .seq items.toList.reverse.toArray } }) (hsz : items.size ≤ sizeLine) : wpAny (model prog w) A (getItem (.ref t) (.ref sl)) Q E s := by
  have htake : sizeOk (.seq items.toList.reverse.toArray) := by
    show items.toList.reverse.toArray.size ≤ sizeLine
    rw [List.size_toArray, List.length_reverse, Array.length_toList]
    exact hsz
  obtain ⟨os, hos, hcs, hds⟩ := id hs
  have hTs : s.TypeIs (.ref sl) "slice" := ⟨os, hos, hcs⟩
  unfold getItem
  try with_reducible refine wpAny_holding ?_
  first | refine wpAny_bind (wpAny_pure ?_) | skip
  refine wpAny_bind (wpAny_sequenceKey ht.typeIs (by decide) ?_)
  refine wpAny_bind (wpAny_callSpecial?_slot (name := Str.ofString "__getitem__") ht.typeIs PyProof.Rows.slot_tuple_getitem
    (wpAny_call_entry PyProof.Rows.slot_tuple_getitem ht.typeIs entry_tuple_getitem ?_ (args_tuple_getitem _ _)))
  show wpAny _ _ (Builtin.Tuple.tupleItemsOf (.ref t) >>= _) _ _ s
  refine wpAny_bind (tupleItemsOf_ ht ?_)
  refine wpAny_bind (wpAny_typeOf hTs ?_)
  rw [if_pos (by decide)]
  refine wpAny_bind (rev_applied hs pl pu ps ?_)
  have hno : ¬ ((((items.size : Int) - 1) == 0 && (-1 : Int) == 1 && items.size == items.size) = true) := by
    intro q
    rw [Bool.and_eq_true, Bool.and_eq_true] at q
    exact absurd q.1.2 (by decide)
  show wpAny _ _ (if (((items.size : Int) - 1) == 0 && (-1 : Int) == 1 && items.size == items.size) = true then _ else _) _ _ s
  rw [if_neg hno, rev_pick]
  first
    | exact wpAny_bind (m := Builtin.Tuple.tupleExact _) (wpAny_newObj_type (wpAny_pure ⟨_, rfl, wpAny_pure h⟩) htake)
    | exact wpAny_bind (m := Builtin.Tuple.tupleExact _) (wpAny_newObj_type (wpAny_bind (wpAny_pure (wpAny_pure ⟨_, rfl, wpAny_pure h⟩))) htake)
    | exact wpAny_bind (wpAny_bind (m := Builtin.Tuple.tupleExact _) (wpAny_newObj_type (wpAny_pure (wpAny_pure ⟨_, rfl, wpAny_pure h⟩)) htake))
    | exact wpAny_bind (wpAny_bind (m := Builtin.Tuple.tupleExact _) (wpAny_newObj_type (wpAny_pure ⟨_, rfl, wpAny_pure h⟩) htake))
end
end HT
namespace L3
open PySem PySem.Spec PyProof.Rows L2
section
variable {X : Cx} {Y : Wd} {W : WX} {U : Ev} {e : Expr} {a' : E}
def tRevX (K : PySem.W.Frag) (te : TE) : TE := fun σ H Q => te σ H fun x H1 => ∃ a xs, x = .ref a ∧ ((SqL K H1 a xs ∧ ∀ p, H1 p = none → Q (.ref p) (upd H1 p (.lst xs.reverse))) ∨ (SqT K H1 a xs ∧ ∀ p, H1 p = none → Q (.ref p) (upd H1 p (.tup xs.reverse))))
theorem pe_revX {te : TE} {k : Nat} {p1 p2 p3 pos : Pos} (he : PE X e te) : PE X (.Subscript e (.Slice none none (some (.UnaryOp .USub (.Constant (.int 1) k p1) p2)) p3) pos) (tRevX X.K te) := by
  refine ⟨fun pins s σ H Q I h => ?_⟩
  refine Subscript_ (thn (he.run pins s σ H _ I h) fun v s1 ⟨x, H1, I1, r1, q1⟩ => ?_)
  obtain ⟨a, xs, ex, q⟩ := q1
  subst ex
  cases r1
  have hst : PO X (some (.UnaryOp .USub (.Constant (.int 1) k p1) p2)) (tPart (tUn (rU fun i => .int (-i)) (tC (.int 1)))) := po_some (pe_un un_neg pe_int)
  refine wpAny_Slice (thn (po_none.run pins s1 σ H1 (fun o H2 => o = none ∧ H2 = H1) I1 ⟨rfl, rfl⟩) fun vl s2 ⟨l, H2, I2, pl, el, e2⟩ => ?_)
  subst el e2
  refine thn (po_none.run pins s2 σ H2 (fun o H3 => o = none ∧ H3 = H2) I2 ⟨rfl, rfl⟩) fun vu s3 ⟨u, H3, I3, pu, eu, e3⟩ => ?_
  subst eu e3
  refine thn (hst.run pins s3 σ H3 (fun o H4 => o = some (-1) ∧ H4 = H3) I3 ⟨1, rfl, -1, rfl, rfl, rfl⟩) fun vs s4 ⟨o, H4, I4, ps, eo, e4⟩ => ?_
  subst eo e4
  have I5 : Inv X pins σ H4 { s4 with heap := s4.heap.push { cls := .type "slice", data := .fields #[vl, vu, vs] } } := I4.kept (t' := s4.toks) fun b ob q => Heap.get?_push_of_some _ q
  show wpAny (model X.prog X.w) X.A (subscriptTail e (.Slice none none (some (.UnaryOp .USub (.Constant (.int 1) k p1) p2)) p3) (.ref a) (.ref s4.heap.objs.size)) (EP X pins σ Q) X.xe { s4 with heap := s4.heap.push { cls := .type "slice", data := .fields #[vl, vu, vs] } }
  rcases q with ⟨hx, q⟩ | ⟨hx, q⟩
  · obtain ⟨its, r, ht, hz⟩ := I5.list hx
    have hlen := r.length
    refine tail_any (ops := [.ref a, .ref s4.heap.objs.size]) ht.isList.typeIs (PySem.slot_list_getitem.lookup) ?_ (by with_unfolding_all rfl)
    refine wpAny_getItem_list_slice ht.isList (Heap.IsSliceOf.new _ vl vu vs) pl pu ps (by decide) ?_ (by rw [List.size_toArray]; omega)
    rw [PySem.W.krv_pick]
    refine ⟨.ref _, _, I5.laid (t' := s4.toks) (o := .lst xs.reverse) (fun b ob q => Heap.get?_push_of_some _ q) (Nat.le_refl _) ?_, rfl, q _ (I5.hok.fresh (Nat.le_refl _))⟩
    exact ⟨by rw [List.length_reverse]; exact hz, _, 0, r.reverse, Heap.get?_push_size _ rfl⟩
  · obtain ⟨its, r, ht, hz⟩ := I5.tuple hx
    have hlen := r.length
    refine tail_any (ops := [.ref a, .ref s4.heap.objs.size]) ht.typeIs (PyProof.Rows.slot_tuple_getitem.lookup) ?_ (by with_unfolding_all rfl)
    refine HT.getItem_tuple_rev ht (Heap.IsSliceOf.new _ vl vu vs) pl pu ps ?_ (by rw [List.size_toArray]; omega)
    refine ⟨.ref _, _, I5.laid (t' := s4.toks) (o := .tup xs.reverse) (fun b ob q => Heap.get?_push_of_some _ q) (Nat.le_refl _) ?_, rfl, q _ (I5.hok.fresh (Nat.le_refl _))⟩
    exact ⟨by rw [List.length_reverse]; exact hz, _, r.reverse, IsTup.new _ _⟩
theorem s_revs (hK : X.K = Y.K) {k : Nat} {p1 p2 p3 pos : Pos} (ha : PE X e (rdX Y W U a')) : PE X (.Subscript e (.Slice none none (some (.UnaryOp .USub (.Constant (.int 1) k p1) p2)) p3) pos) (rdE Y W U (.op .revs (.cons a' .nil))) := by
  refine (pe_revX ha).imp fun σ H Q ⟨G, R, en, S, p⟩ => ⟨G, R, en, S, ?_⟩
  rw [evE_op1] at p
  refine Pst.bind p fun y en1 v H1 G1 _ s1 k1 S1 o1 p1 => ?_
  unfold opFin at p1
  split at p1
  · exact p1.elim
  · rename_i ds e1
    obtain ⟨d, e2, rfl⟩ := avDs_1 (show avDs en1 [y] = some ds from e1)
    have pk := pk_of S1 o1 e2
    split at p1
    · rename_i q e3
      obtain ⟨d', e4, e5⟩ := a1_some (show a1 rRev3 [d] = some q from e3)
      cases e4
      cases d with
      | tup xs =>
        cases e5
        obtain ⟨a, vs, rfl, h1, h2⟩ := pk.tup
        exact ⟨a, vs, rfl, .inr ⟨by rw [hK]; exact Same.seqT S1.gH h1, fun p hp => fin_newG S1 p1 hp (.tup (.inl (.inl upd_same)) (h2.reverse.mono (same_new (S1.gnone hp))))⟩⟩
      | lst xs =>
        cases e5
        obtain ⟨a, vs, rfl, h1, h2⟩ := pk.lst S1
        exact ⟨a, vs, rfl, .inl ⟨.inl (.inl h1), fun p hp => fin_own S1 p1 hp (.lst upd_same h2.reverse)⟩⟩
      | fls xs =>
        cases e5
        rcases pk with h | ⟨_, _, t⟩
        · cases h with | fls h1 h2 =>
            exact ⟨_, _, rfl, .inl ⟨by rw [hK]; exact S1.gH.seq h1, fun p hp => fin_own S1 p1 hp (.lst upd_same h2.reverse)⟩⟩
        · cases t
      | _ => cases e5
    · exact p1.elim
/-! ### x is True -/
theorem p_isb : P2 Y W .isb (fun x y H Q => ∃ a b, x = .bl a ∧ y = .bl b ∧ Q (.bl (decide (a = b))) H) := .mk fun G R H σ en x y ds p Q S hp e pq => by
  match ds, hp, e with
  | [.bl a, .bl b], hp, e =>
    obtain ⟨k1, k2, _⟩ := hp
    cases e
    exact ⟨a, b, k1.bl, k2.bl, fin_sh S pq (.bl _)⟩
  | [], hp, _ => exact hp.elim
  | [_], hp, _ => exact hp.2.elim
  | _ :: _ :: _ :: _, hp, _ => exact hp.2.2.elim
theorem p_nsb : P2 Y W .nsb (fun x y H Q => ∃ a b, x = .bl a ∧ y = .bl b ∧ Q (.bl (!decide (a = b))) H) := .mk fun G R H σ en x y ds p Q S hp e pq => by
  match ds, hp, e with
  | [.bl a, .bl b], hp, e =>
    obtain ⟨k1, k2, _⟩ := hp
    cases e
    exact ⟨a, b, k1.bl, k2.bl, fin_sh S pq (.bl _)⟩
  | [], hp, _ => exact hp.elim
  | [_], hp, _ => exact hp.2.elim
  | _ :: _ :: _ :: _, hp, _ => exact hp.2.2.elim
theorem k_isb : CmpK X Y W .Is .isb := ⟨⟨_, op_is_bl, p_isb⟩, rfl⟩
theorem k_nsb : CmpK X Y W .IsNot .nsb := ⟨⟨_, op_isnot_bl, p_nsb⟩, rfl⟩
/-! ### {k: x} -/
theorem s_dsp1 {ke v : Expr} {k : Key} {v' : E} {pos : Pos} (hk : PE X ke (tC (kV k))) (hv : PE X v (rdX Y W U v')) : PE X (.Dict [some ke] [v] pos) (rdE Y W U (.op (.dsp1 k) (.cons v' .nil))) := by
  refine (pe_disp (pps_cons hk hv pps_nil) rfl rfl (by simp) (show 1 ≤ 15 by decide)).imp fun σ H Q ⟨G, R, en, S, p⟩ q hq => ?_
  rw [evE_op1] at p
  have S' : Sep Y G (upd R q (.dK [])) (upd H q (.dK [])) σ en := (S.new hq).reserve upd_same (S.gnone hq) (S.freeNew hq)
  refine rd.mk S' (Pst.bindR (same_new (S.rnone hq)) p fun av en1 y H2 G2 _ s k2 S2 o2 p2 => ?_)
  have hH : H2 q = some (.dK []) := S2.rH _ _ upd_same
  refine ⟨hH, [(k, y)], rfl, (by decide : 1 ≤ 15), ?_⟩
  unfold opFin at p2
  split at p2
  · exact p2.elim
  · rename_i ds e1
    cases av with
    | p i => cases e1
    | v d =>
      cases e1
      have r : Rep Y G2 y d := o2
      have p2 : Pst Y W (okV Y) G2 R σ en1 (.ok (.dct [k] [d], true) en1) Q := p2
      have S3 := S2.wrR (o' := .dK [(k, y)]) upd_same rfl
      rw [upd_upd] at S3
      have S4 : Sep Y G2 R (upd H2 q (.dK [(k, y)])) σ en1 := S3.lessR (same_new (S.rnone hq))
      refine p2 (.ref q) _ G2 (Same.refl _) (Keep.refl _ _) S4 ⟨q, rfl, ⟨S2.gr q _ upd_same, S.rnone hq, .dct upd_same rfl (.cons r .nil)⟩, fun i hi z => ?_⟩
      obtain ⟨ow, d', e1, e2⟩ := isOwnC_get hi
      obtain ⟨b, e3, w2⟩ := S2.own i ow d' e1 e2
      rw [e3] at z; cases z
      have := w2.r
      rw [upd_same] at this; cases this
end
end L3

/-! L3X: sorted(set(xs)), xs ints. -/
namespace HT
open PySem PySem.Spec PySem.Calls PyProof.Rows L2
section
variable {P : Program} {w : World} {A : Around} {E : Value → Shared → Prop} {s : Shared}
theorem call_set_lstI {l : Addr} {items : Array Value} (ns : List Int) {Q : Value → Shared → Prop} (hh : A.handled = none) (hl : s.heap.IsList l items) (hit : IntsAre items.toList ns) (hb : ns.length + 1 < scanBound)
    (h : ∀ (h' : Heap) (tk c : Nat), SetR w h' s.heap.objs.size (fun j => decide (j ∈ ns)) c → c ≤ ns.length → (∀ b o, s.heap.get? b = some o → h'.get? b = some o) → Q (.ref s.heap.objs.size) { s with heap := h', toks := tk }) :
    wpAny (model P w) A (call (.type "set") [.ref l]) Q E s := by
  have hisz : items.size = ns.length := by
    have q := IntsAre.length hit
    rw [Array.length_toList] at q
    exact q
  generalize hled : (!w.params.followText "set-order") = led
  obtain ⟨c, tl, hmro⟩ := F.called_set.mro
  have hmade := F.called_set.made
  have hsub := F.called_set.sub
  refine wpAny_call (codeAny_of_tree ?_)
  show wpAny _ _ (callAny (.type "set") _) _ _ _
  refine wpAny_pure ⟨Code.quiet_builtin _ (by decide +kernel), codeAny_builtin F.entry_type_call ?_⟩
  rw [Around.under_plain (weight_type_call_type "set" [.ref l] []) rfl]
  have h1 := F.called_set.notType
  have h2 := F.called_set.canCreate
  have hct := F.typeCall_set_1 (.ref l)
  repeat (any_goals (first | assumption | wp_step))
  refine codeAny_mono (code_set_led1 (.ref l) (E := E) (Q₁ := fun obj s₁ => obj = .ref s.heap.objs.size ∧ s₁ = { s with heap := s.heap.push { cls := .type "set", dict := none, data := .set #[] 0 (.fresh 0 0 led) } }) (by rw [hled]; exact ⟨rfl, rfl⟩)) fun r s₁ hr => ?_
  cases r with
  | error e => exact hr
  | ok fl =>
    cases fl with
    | ret obj =>
      obtain ⟨rfl, rfl⟩ := hr
      have hS : (s.heap.push { cls := .type "set", dict := none, data := .set #[] 0 (.fresh 0 0 led) }).get? s.heap.objs.size = some { cls := .type "set", dict := none, data := .set #[] 0 (.fresh 0 0 led) } := Heap.get?_push_size _ rfl
      have hT : Shared.TypeIs { s with heap := s.heap.push { cls := .type "set", dict := none, data := .set #[] 0 (.fresh 0 0 led) } } (.ref s.heap.objs.size) "set" := ⟨_, hS, rfl⟩
      have hli := F.called_set.init.lookup
      have hbi := F.called_set.init.bind (.ref s.heap.objs.size)
      repeat (any_goals (first | assumption | wp_step))
      refine codeAny_mono (codeAny_call_builtin (R := wants (fun r s₂ => r = .none ∧ ∃ h' tk c, s₂ = { s with heap := h', toks := tk } ∧ SetR w h' s.heap.objs.size (fun j => decide (j ∈ ns)) c ∧ c ≤ ns.length ∧
          (∀ b o, s.heap.get? b = some o → h'.get? b = some o)) E) F.called_set.init.plain F.entry_set_init (check_set_init_1 hT ?_)) fun r₂ s₂ hr₂ => ?_
      · obtain ⟨ol, hol, hcl, nl, hdl⟩ := hl
        obtain ⟨ocls, odict, odata, oslots⟩ := ol
        simp only at hcl hdl
        subst hcl; subst hdl
        have hol' : (s.heap.push { cls := .type "set", dict := none, data := .set #[] 0 (.fresh 0 0 led) }).get? l = some { cls := .type "list", dict := odict, data := .seq items nl, slots := oslots } := Heap.get?_push_of_some _ hol
        have hsls := F.sub_list_set
        have hslf := F.sub_list_frozenset
        have hne : (Value.type "list" == Value.type "dict") = false := by decide
        have hl1 : (s.heap.push { cls := .type "set", dict := none, data := .set #[] 0 (.fresh 0 0 led) }).IsList l items := ⟨_, hol', rfl, nl, rfl⟩
        unfold Builtin.«set.__init__» noKeywords Builtin.Frozenset.updateFrom
        generalize hPI : pyIter = PI
        wp_walk
        subst hPI
        refine wpAny_pyIter_list hl1 ?_
        refine wpAny_bind (wpAny_runValue ?_)
        have hlS : l < s.heap.objs.size := Heap.lt_size hol
        have hh3 : A.in1.in1.in1.handled = none := by simp [hh]
        have hneI : l ≠ (s.heap.push { cls := .type "set", dict := none, data := .set #[] 0 (.fresh 0 0 led) }).objs.size := by
          rw [Heap.size_push]; exact Nat.ne_of_lt (Nat.lt_succ_of_lt hlS)
        have hSf : s.heap.objs.size ∉ [(s.heap.push { cls := .type "set", dict := none, data := .set #[] 0 (.fresh 0 0 led) }).objs.size, l] := by
          rw [Heap.size_push]; simp only [List.mem_cons, List.mem_singleton, List.not_mem_nil, or_false, not_or]
          exact ⟨Nat.ne_of_lt (Nat.lt_succ_self _), Nat.ne_of_gt hlS⟩
        have hval : ∀ (i : Nat) (v : Value), items[i]? = some v → ∃ k t, ns[i]? = some k ∧ v = .int k t := fun i v hv => by
          have hi : i < ns.length := by rw [← hisz]; exact (Array.getElem?_eq_some_iff.mp hv).1
          obtain ⟨t, e⟩ := PyProof.Rows.IntsAre.int_at hit i v (by rw [Array.getElem?_toList]; exact hv)
          refine ⟨ns[i], t, List.getElem?_eq_getElem hi, ?_⟩
          rw [e, List.getD_eq_getElem?_getD, List.getElem?_eq_getElem hi] <;> rfl
        refine set_update_ints ((Walks.list hh3 _ l hneI items).toS) s.heap.objs.size
          hSf ns hisz hb hval (items.size - 0) 0 _ (by omega) (Nat.zero_le _)
          ⟨⟨_, Heap.get?_push_size _ rfl, rfl, rfl⟩, (hl1.push _)⟩ ?hS0 ?hR
        case hS0 =>
          have hget : ((s.heap.push { cls := .type "set", dict := none, data := .set #[] 0 (.fresh 0 0 led) }).push { cls := .type "list_iterator", data := .fields #[.ref l, .int 0 0] }).get? s.heap.objs.size = some { cls := .type "set", dict := none, data := .set #[] 0 (.fresh 0 0 led) } := Heap.get?_push_of_some _ hS
          exact ⟨0, Nat.le_refl 0, setR_new_at (by rw [hget, hled])⟩
        case hR =>
          intro s' c' hm hc' hS'
          obtain ⟨h', g2, d', tk', os'⟩ := s'
          have eg : g2 = s.gens := hm.gens
          have ed : d' = s.drawn := hm.drawn
          have eo : os' = s.os := hm.os
          subst eg; subst ed; subst eo
          show wpAny _ _ _ _ _ _
          refine wpAny_pure ?_
          show wpAny _ _ (ret Value.none) _ _ _
          rw [hisz] at hc'
          refine wpAny_pure ⟨rfl, h', tk', c', rfl, hS', hc', fun b o e => ?_⟩
          have hb0 : b < s.heap.objs.size := Heap.lt_size e
          have hb1 : b ≠ s.heap.objs.size := Nat.ne_of_lt hb0
          have hb2 : b ≠ (s.heap.push { cls := .type "set", dict := none, data := .set #[] 0 (.fresh 0 0 led) }).objs.size := by
            rw [Heap.size_push]; exact Nat.ne_of_lt (Nat.lt_succ_of_lt hb0)
          exact hm.heap b o (by simp only [List.mem_cons, List.mem_singleton, List.not_mem_nil, or_false, not_or]; exact ⟨hb1, hb2⟩) (Heap.get?_push_of_some _ (Heap.get?_push_of_some _ e))
      · cases r₂ with
        | error e => exact hr₂
        | ok fl₂ =>
          cases fl₂ with
          | ret r =>
            obtain ⟨rfl, h', tk, c', rfl, hS', hc', hk'⟩ := hr₂
            repeat (any_goals (first | assumption | wp_step))
            exact h _ _ _ hS' hc' hk'
          | _ => exact hr₂.elim
    | _ => exact hr.elim
end
end HT
namespace L3
open PySem PySem.Spec PyProof.Rows L2
theorem insS_mem (x : Int) : ∀ (l : List Int) (y : Int), y ∈ insS x l ↔ y = x ∨ y ∈ l
  | [], y => by simp [insS]
  | z :: r, y => by
    unfold insS
    split
    · simp
    · split
      · rename_i h; subst h; simp
      · rw [List.mem_cons, insS_mem x r y, List.mem_cons]
        constructor
        · rintro (h | h | h)
          · exact .inr (.inl h)
          · exact .inl h
          · exact .inr (.inr h)
        · rintro (h | h | h)
          · exact .inr (.inl h)
          · exact .inl h
          · exact .inr (.inr h)
theorem sortS_mem : ∀ (l : List Int) (y : Int), y ∈ sortS l ↔ y ∈ l
  | [], _ => by simp [sortS]
  | x :: r, y => by rw [sortS, insS_mem, sortS_mem r y, List.mem_cons]
theorem insS_sorted (x : Int) : ∀ l : List Int, l.Pairwise (· < ·) → (insS x l).Pairwise (· < ·)
  | [], _ => by simp [insS]
  | y :: r, h => by
    unfold insS
    rw [List.pairwise_cons] at h
    split
    · rename_i hxy
      rw [List.pairwise_cons]
      refine ⟨fun z hz => ?_, List.pairwise_cons.mpr h⟩
      rcases List.mem_cons.mp hz with rfl | hz
      · exact hxy
      · exact Int.lt_trans hxy (h.1 z hz)
    · split
      · exact List.pairwise_cons.mpr h
      · rename_i h1 h2
        rw [List.pairwise_cons]
        refine ⟨fun z hz => ?_, insS_sorted x r h.2⟩
        rcases (insS_mem x r z).mp hz with rfl | hz
        · omega
        · exact h.1 z hz
theorem sortS_sorted : ∀ l : List Int, (sortS l).Pairwise (· < ·)
  | [] => .nil
  | x :: r => insS_sorted x _ (sortS_sorted r)
theorem lt_nodup : ∀ {l : List Int}, l.Pairwise (· < ·) → l.Nodup := fun h => h.imp fun h => Int.ne_of_lt h
theorem sortedS_one {l m : List Int} (h : ∀ k, k ∈ l ↔ k ∈ m) (h1 : l.Pairwise (· < ·)) (h2 : m.Pairwise (· < ·)) : l = m :=
  sorted_one ((List.perm_ext_iff_of_nodup (lt_nodup h1) (lt_nodup h2)).mpr h) (h1.imp Int.le_of_lt) (h2.imp Int.le_of_lt)
section
variable {X : Cx} {Y : Wd} {W : WX} {U : Ev} {e : Expr} {a' : E}
def tSrtSet (K : PySem.W.Frag) (ta : TE) : TE := fun σ H Q => ta σ H fun x H1 => ∃ (l : Addr) (ns : List Int), x = V.ref l ∧ (SqL K H1 l (ns.map V.int) ∨ SqT K H1 l (ns.map V.int)) ∧ ns.length < 64 ∧
  ∀ (ms : List Int) (p : Addr), ms.Pairwise (· < ·) → (∀ k : Int, k ∈ ms ↔ k ∈ ns) → H1 p = none → Q (.ref p) (upd H1 p (.lst (ms.map V.int)))
theorem sorted_inv {pins : List (Addr × Obj)} {σ : L2.St} {H1 : Hp} {s : Shared} {a : Addr} {c : Nat} {ns : List Int} {Q : VK} (hc : X.calm = true) (I : L2.Inv X pins σ H1 s) (hS : SetR X.w s.heap a (fun j => decide (j ∈ ns)) c) (h64 : c < 64)
    (q1 : ∀ (ms : List Int) (p : Addr), ms.Pairwise (· < ·) → (∀ k : Int, k ∈ ms ↔ k ∈ ns) → H1 p = none → Q (.ref p) (upd H1 p (.lst (ms.map V.int)))) :
    wpAny (model X.prog X.w) X.A (call (.builtin "sorted") [.ref a]) (EP X pins σ Q) X.xe s := by
  refine sorted_set hS (I.ok.hd hc) h64 fun s' p out c2 ms k g o hp hg hi hs hm hl => ?_
  have hlen : (ms.map V.int).length ≤ sizeLine := by rw [List.length_map, hl, sizeLine_eq]; omega
  have hn : H1 p = none := I.hok.fresh hp
  have J : L2.Inv X pins σ (upd H1 p (.lst (ms.map V.int))) { s with heap := s'.heap, gens := s'.gens, drawn := s'.drawn, toks := s'.toks } :=
    I.call (ch := []) (Un.laid k hp hn) (I.hok.laid k hp ⟨hlen, out.toList, c2, vals_of_ints hi, hg⟩) (by rw [g]; exact I.bare) (fun _ z => nomatch z)
  have e : s' = { s with heap := s'.heap, gens := s'.gens, drawn := s'.drawn, toks := s'.toks } := by
    cases s'
    cases s
    cases o
    rfl
  rw [e]
  exact ⟨.ref p, _, J, rfl, q1 ms p hs (fun k => by rw [hm k, decide_eq_true_iff]) hn⟩
theorem pe_srtSet {a : Expr} {ta : TE} {p p2 q pos : Pos} (hc : X.calm = true) (hg : Gl X "sorted") (hm : X.mg "sorted" = none) (hg2 : Gl X "set") (hm2 : X.mg "set" = none) (ha : PE X a ta)
    (na : starEach [a] X.env = (false, eval a X.env) :: starEach [] X.env := by rfl) : PE X (.Call (.Name "sorted" p) [.Call (.Name "set" p2) [a] [] q] [] pos) (tSrtSet X.K ta) := by
  refine ⟨fun pins s σ H Q I h => ?_⟩
  refine Call_ (ld_blt I hg hm bt_srt ?_)
  refine PyProof.Rows.callWith_builtin1 (PyProof.Rows.args_cons ?_ rfl) rfl rfl
  refine Call_ (ld_blt I hg2 hm2 PyProof.Rows.boot_set ?_)
  refine PyProof.Rows.callWith_type1 (PyProof.Rows.args_cons (thn (ha.run pins s σ H _ I h) fun v s1 ⟨x, H1, I1, r1, q1⟩ => PyProof.Rows.args_nil ?_) na) na rfl
  obtain ⟨l, ns, rfl, hq, h1, q1⟩ := q1
  cases r1
  have fin : ∀ (h' : Heap) (tk c : Nat), SetR X.w h' s1.heap.objs.size (fun j => decide (j ∈ ns)) c → c ≤ ns.length → (∀ b o, s1.heap.get? b = some o → h'.get? b = some o) →
      wpAny (model X.prog X.w) X.A (call (.builtin "sorted") [.ref s1.heap.objs.size]) (EP X pins σ Q) X.xe { s1 with heap := h', toks := tk } := by
    intro h' tk c hS hc' hk
    have I2 : Inv X pins σ H1 { s1 with heap := h', toks := tk } := I1.kept fun b o e => hk b o e
    exact sorted_inv hc I2 hS (by omega) q1
  rcases hq with hq | hq
  · obtain ⟨its, r, pl, hz⟩ := I1.list hq
    exact HT.call_set_lstI ns (I1.ok.hd hc) pl.isList (by simpa using r.ints) (by unfold scanBound; omega) fun h' tk c hS hc' hk => PyProof.Rows.args_nil (fin h' tk c hS hc' hk)
  · obtain ⟨its, r, pl, hz⟩ := I1.tuple hq
    exact call_set_tupI ns (I1.ok.hd hc) pl (by simpa using r.ints) (by unfold scanBound; omega) fun h' tk c hS hc' hk => PyProof.Rows.args_nil (fin h' tk c hS hc' hk)
theorem s_srtS (hc : X.calm = true) (hm : X.mg "sorted" = none) (hm2 : X.mg "set" = none) (hK : X.K = Y.K) {p p2 q pos : Pos} (ha : PE X e (rdX Y W U a')) (hg : Gl X "sorted" := by rfl) (hg2 : Gl X "set" := by rfl)
    (na : starEach [e] X.env = (false, eval e X.env) :: starEach [] X.env := by rfl) : PE X (.Call (.Name "sorted" p) [.Call (.Name "set" p2) [e] [] q] [] pos) (rdE Y W U (.op .srtS (.cons a' .nil))) := by
  refine (pe_srtSet hc hg hm hg2 hm2 ha na).imp fun σ H Q ⟨G, R, en, S, p⟩ => ⟨G, R, en, S, ?_⟩
  rw [evE_op1] at p
  refine Pst.bind p fun y en1 v H1 G1 _ s1 k1 S1 o1 p1 => ?_
  unfold opFin at p1
  split at p1
  · exact p1.elim
  · rename_i ds e1
    obtain ⟨d, e2, rfl⟩ := avDs_1 (show avDs en1 [y] = some ds from e1)
    have pk := pk_of S1 o1 e2
    split at p1
    · rename_i q e3
      obtain ⟨d', e4, e5⟩ := a1_some (show a1 rSrtS [d] = some q from e3)
      cases e4
      have fin : ∀ (xs : List D) (is : List Int) (ms : List Int) (p : Addr), asI xs = some is → (if is.length < 64 then some ((D.lst ((sortS is).map D.int), true) : D × Bool) else none) = some q → ms.Pairwise (· < ·) → (∀ k : Int, k ∈ ms ↔ k ∈ is) → H1 p = none → Q (.ref p) (upd H1 p (.lst (ms.map V.int))) := fun xs is ms p ei eq hs hm hp => by
        split at eq
        · cases eq
          have : ms = sortS is := sortedS_one (fun k => by rw [hm k, sortS_mem]) hs (sortS_sorted is)
          subst this
          exact fin_own S1 p1 hp (.lst upd_same (RepL.ofInts _))
        · cases eq
      have len : ∀ (is : List Int), (if is.length < 64 then some ((D.lst ((sortS is).map D.int), true) : D × Bool) else none) = some q → is.length < 64 := fun is eq => by
        split at eq
        · assumption
        · cases eq
      unfold rSrtS at e5
      split at e5
      · rename_i xs e6
        split at e5
        · rename_i is e7
          cases d with
          | tup ys =>
            cases e6
            obtain ⟨a, vs, rfl, h1, h2⟩ := pk.tup
            have ev := h2.asI e7
            subst ev
            exact ⟨a, is, rfl, .inr (by rw [hK]; exact Same.seqT S1.gH h1), len is e5, fun ms p => fin _ is ms p e7 e5⟩
          | lst ys =>
            cases e6
            obtain ⟨a, vs, rfl, h1, h2⟩ := pk.lst S1
            have ev := h2.asI e7
            subst ev
            exact ⟨a, is, rfl, .inl (.inl (.inl h1)), len is e5, fun ms p => fin _ is ms p e7 e5⟩
          | _ => cases e6
        · cases e5
      · cases e5
    · exact p1.elim
end
end L3

/-! L3Z: instances: C(e, ..), o.f = e. -/
namespace L2
open PySem PySem.Spec PyProof.Rows
section
variable {X : Cx} {CX : CXT} {k : Nat} {f C : Addr} {fd : FuncData} {ps : List Str} {sp : Sp} {E : St → XK} {x : Str} {p pos : Pos} {e : Expr} {es : List Expr} {t : TA}
def tMakeS (C : Addr) (sp : Sp) (E : St → XK) (t : TA) : TE := fun σ H Q => t σ H fun vs H1 => ∀ x dx, H1 x = none → H1 dx = none → dx ≠ x → sp (.ref x :: vs) (upd (upd H1 dx (.own x)) x (.ins C dx [])) (fun v H2 => v = .non ∧ Q (.ref x) H2) (E σ)
theorem run_makeS {pins : List (Addr × Obj)} {σ : St} {H : Hp} {s : Shared} {Q : VK} {us : List Value} {vs : List V} (M : Mk X.K C f) (F : FnOk X.prog X.w X.K X.mg X.base CX k f fd ps sp) (hr : Room (k + 1) X.A) (hb : Binds X.K fd ps []) (hx : PassesAt CX X σ (E σ)) (I : Inv X pins σ H s) (r : Vals vs us)
    (h : ∀ x dx, H x = none → H dx = none → dx ≠ x → sp (.ref x :: vs) (upd (upd H dx (.own x)) x (.ins C dx [])) (fun v H2 => v = .non ∧ Q (.ref x) H2) (E σ)) : wpAny (model X.prog X.w) X.A (call (.ref C) us) (EP X pins σ Q) X.xe s := by
  have fx : H (s.heap.objs.size + 1) = none := I.hok.fresh (Nat.le_succ _)
  have fd' : H s.heap.objs.size = none := I.hok.fresh (Nat.le_refl _)
  have todo := h _ _ fx fd' (Nat.ne_of_lt (Nat.lt_succ_self _))
  have J := Inv.made (C := C) I
  have rr : Vals (V.ref (s.heap.objs.size + 1) :: vs) (Value.ref (s.heap.objs.size + 1) :: us) := .cons rfl r
  have ln : (Value.ref (s.heap.objs.size + 1) :: us ++ []).length = ps.length := by
    rw [List.append_nil, ← rr.length, F.len _ _ _ _ todo]
  have bb := hb _ (Value.ref (s.heap.objs.size + 1) :: us) J.kIn ln
  rw [List.append_nil] at bb
  refine wpAny_call (make_map (f := f) I.kIn M.makes M.init (beq_iff_eq.mp M.fn) (codeAny_mono (F.run _ X.stack _ _ ⟨Value.ref (s.heap.objs.size + 1) :: us, []⟩ _ _ _ (E σ) (hr.make C us []) (J.env0.make C us []) bb rr todo) fun res s' got => ?_))
  match res, got with
  | .error e, got => exact hx pins _ _ e s' J got
  | .ok (.ret u), got =>
    obtain ⟨v, H', I3, rv, ev, q3⟩ := J.after got
    subst ev
    exact ⟨rv, ⟨V.ref (s.heap.objs.size + 1), H', I3, rfl, q3⟩⟩
theorem pe_makeS (M : Mk X.K C f) (F : FnOk X.prog X.w X.K X.mg X.base CX k f fd ps sp) (hr : Room (k + 1) X.A) (hg : Gl X x) (hm : X.mg x = some (.ref C)) (hb : Binds X.K fd ps []) (hx : ∀ σ, PassesAt CX X σ (E σ))
    (ha : PA X (e :: es) t) (hdb : (x == ("__debug__" : Str)) = false := by decide) (he : starEach (e :: es) X.env = (false, eval e X.env) :: starEach es X.env := by rfl) (hpl : (backTo pos (starEach es X.env)).any (·.1) = false := by rfl) :
    PE X (.Call (.Name x p) (e :: es) [] pos) (tMakeS C sp E t) := by
  refine ⟨fun pins s σ H Q I h => ?_⟩
  refine wpAny_Call_Name_kw (ld_glob I hg hm ?_ hdb)
  refine PySem.W.callWith_K (h₀ := X.base) I.ok.mod.kin M.kp (thn (ha.run pos pins s σ H _ I h) fun us s1 ⟨vs, H1, I1, r, q⟩ => ⟨I1.kIn, ?_⟩) he hpl
  exact run_makeS M F hr hb (hx σ) I1 r q
end
end L2
namespace L3
open PySem PySem.Spec PyProof.Rows L2
section
variable {X : Cx} {Y : Wd} {W : WX} {U : Ev} {G G' R H H' : Hp} {σ : L2.St} {en : En}
theorem Sep.clear (S : Sep Y G R H σ en) : Sep Y G R H [] [] :=
  ⟨S.gH, S.rH, S.gr, rfl, fun i ow d e => by simp at e, fun i ow d e => by simp at e, fun i j a h => by simp [isOwnC] at h, S.tb⟩
theorem pass0 : PassOk Y G σ en [] [] [] := ⟨rfl, rfl, fun k d h => by simp at h, fun k d h => by simp at h, fun k k' i d d' h => by simp at h⟩
theorem back0 : BackOk en en [] [] [] := ⟨rfl, fun _ _ => rfl, fun k i d h => by simp at h⟩
/-- the state in which a new instance is filled -/
theorem made_sep {c : Nat} {x dx : Addr} {vs : List V} {ds : List D} (S : Sep Y G R H σ en) (hok : Y.ok c) (hx : H x = none) (hd : H dx = none) (ne : dx ≠ x) (r : RepL Y G vs ds) :
    Sep Y (upd G dx (.own x)) (restR R H σ en [] []) (upd (upd H dx (.own x)) x (.ins (Y.ca c) dx [])) ((V.ref x :: vs).map some) (((true, D.obj c [] []) :: ds.map fun d => (false, d)).map cellOf) := by
  have S0 : Sep Y G (restR R H σ en [] []) H [] [] := pass_sep S pass0
  have S1 := S0.newG (o := .own x) hd
  have hx1 : (upd H dx (.own x)) x = none := by rw [upd_ne (Ne.symm ne)]; exact hx
  have S2 := S1.new (o := .ins (Y.ca c) dx []) hx1
  have gx : (upd G dx (.own x)) x = none := by rw [upd_ne (Ne.symm ne)]; exact S.gnone hx
  have rx : restR R H σ en [] [] x = none := S0.rnone hx
  have r1 : RepL Y (upd G dx (.own x)) vs ds := RepL.mono (same_new (S.gnone hd)) r
  have hl := r.length
  refine ⟨S2.gH, S2.rH, S2.gr, by simp [hl], fun i ow d e k => ?_, fun i ow d e k => ?_, fun i j a e1 e2 q1 q2 => ?_, S2.tb⟩
  · cases i with
    | zero =>
      simp [cellOf] at e
      rw [← e.1] at k
      cases k
    | succ i =>
      rw [List.map_cons, List.getElem?_cons_succ, List.map_map, List.getElem?_map] at e
      cases q : ds[i]? with
      | none => rw [q] at e; cases e
      | some d' =>
        rw [q] at e
        cases e
        obtain ⟨v, f1, f2⟩ := r1.get q
        exact ⟨v, by rw [List.map_cons, List.getElem?_cons_succ, List.getElem?_map, f1]; rfl, f2⟩
  · cases i with
    | zero =>
      simp [cellOf] at e
      obtain ⟨_, rfl⟩ := e
      exact ⟨x, rfl, gx, rx, .obj hok upd_same upd_same rfl .nil⟩
    | succ i =>
      rw [List.map_cons, List.getElem?_cons_succ, List.map_map, List.getElem?_map] at e
      cases q : ds[i]? with
      | none => rw [q] at e; cases e
      | some d' =>
        rw [q] at e
        cases e
        cases k
  · have z : ∀ i : Nat, isOwnC ((((true, D.obj c [] []) :: ds.map fun d => (false, d)).map cellOf)[i]?) = true → i = 0 := fun i h => by
      cases i with
      | zero => rfl
      | succ i =>
        rw [List.map_cons, List.getElem?_cons_succ, List.map_map, List.getElem?_map] at h
        cases q : ds[i]? with
        | none => rw [q] at h; cases h
        | some d' => rw [q] at h; cases h
    rw [z i e1, z j e2]
/-- behind the making -/
theorem made_back {x : Addr} {vs : List V} {d : D} {ow : Ow} {outs : List Cell} (S : Sep Y G R H σ en) (s : Same G G') (S' : Sep Y G' (restR R H σ en [] []) H' ((V.ref x :: vs).map some) (some (ow, d) :: outs)) (hw : ow = .brw ∨ ow = .brs) :
    Sep Y G' R H' σ en ∧ Vok Y G' R H' σ en (.ref x) d (ow.isOwn) := by
  obtain ⟨h1, _, h3⟩ := back_sep (outs := []) S pass0 s (vs := []) (S'.clear) back0
  refine ⟨h1, h3 _ _ _ ?_⟩
  rcases hw with rfl | rfl
  · obtain ⟨a, e1, e2⟩ := S'.own 0 .brw d rfl rfl
    cases e1
    exact ⟨_, rfl, e2, fun i h => by simp [isOwnC] at h⟩
  · obtain ⟨v, e1, e2⟩ := S'.sh 0 .brs d rfl rfl
    cases e1
    exact e2
theorem s_mk {c f k : Nat} {fI : Addr} {fd : FuncData} {ps : List Str} {x : Str} {p pos : Pos} {e : Expr} {es : List Expr} {as' : Es} (M : Mk X.K (Y.ca c) fI) (hok : Y.ok c) (F : FnOk X.prog X.w X.K X.mg X.base (L2.CX X.prog X.w) k fI fd ps (spF Y (U.C f))) (hr : Room (k + 1) X.A) (hm : X.mg x = some (.ref (Y.ca c)))
    (hb : Binds X.K fd ps []) (tk : Takes X W) (ha : PA X (e :: es) (rdA Y W U as')) (hg : Gl X x := by rfl) (hdb : (x == ("__debug__" : Str)) = false := by decide) (he : starEach (e :: es) X.env = (false, eval e X.env) :: starEach es X.env := by rfl) (hpl : (backTo pos (starEach es X.env)).any (·.1) = false := by rfl) :
    PE X (.Call (.Name x p) (e :: es) [] pos) (rdE Y W U (.mk c f as')) := by
  refine (pe_makeS M F hr hg hm hb (fun σ => passAt tk σ) ha hdb he hpl).imp fun σ H Q ⟨G, R, en, S, p⟩ => ⟨G, R, en, S, ?_⟩
  rw [evE] at p
  refine Pst.bind p fun avs en1 vs H1 G1 _ s1 k1 S1 o1 p1 => ?_
  intro a dx ha' hd' ne
  unfold mkFin at p1
  split at p1
  · exact p1.elim
  · rename_i ds ed
    have r : RepL Y G1 vs ds := repL_of o1 ed
    have sg : Same G1 (upd G1 dx (.own a)) := same_new (S1.gnone hd')
    refine ⟨_, _, _, made_sep S1 hok ha' hd' ne r, ?_⟩
    split at p1
    · rename_i own d outs ec
      rw [ec]
      intro v H2 G2 s2 S2 o2
      obtain ⟨g1, g2⟩ := made_back S1 (sg.trans s2) S2 (.inl rfl)
      refine ⟨?_, p1 (.ref a) H2 G2 (sg.trans s2) (Keep.refl _ _) g1 g2⟩
      cases own with
      | false => cases o2; rfl
      | true =>
        obtain ⟨_, _, q, _⟩ := o2
        cases q.t
    · rename_i own d outs ec
      rw [ec]
      intro v H2 G2 s2 S2 o2
      obtain ⟨g1, g2⟩ := made_back S1 (sg.trans s2) S2 (.inr rfl)
      refine ⟨?_, p1 (.ref a) H2 G2 (sg.trans s2) (Keep.refl _ _) g1 g2⟩
      cases own with
      | false => cases o2; rfl
      | true =>
        obtain ⟨_, _, q, _⟩ := o2
        cases q.t
    · rename_i z outs ec
      rw [ec]
      intro cls dd H2 G2 s2 S2 o2
      obtain ⟨h1, _, _⟩ := back_sep (outs := []) S1 pass0 (sg.trans s2) (vs := []) (S2.clear) back0
      exact p1 cls dd H2 G2 (sg.trans s2) (Keep.refl _ _) h1 o2
    · exact p1.elim
/-! ### o.f = e -/
theorem put_fld {f : Str} {y : V} {d : D} (ry : Rep Y G y d) : ∀ {fs : List (Str × V)} {ns : List Str} {xs : List D}, fs.map (·.1) = ns → RepL Y G (fs.map (·.2)) xs → (putF f y fs).map (·.1) = (fldSet f d ns xs).1 ∧ RepL Y G ((putF f y fs).map (·.2)) (fldSet f d ns xs).2
  | [], ns, xs, e, r => by
    subst e
    cases r
    exact ⟨rfl, .cons ry .nil⟩
  | (g, v) :: fs, ns, xs, e, r => by
    subst e
    cases r with
    | cons r1 r2 =>
      unfold putF
      show _ ∧ _
      simp only [List.map_cons]
      unfold fldSet
      by_cases h : g = f
      · subst h
        rw [if_pos rfl]
        first
          | exact ⟨by simp, by simpa using RepL.cons ry r2⟩
          | (rw [if_pos (by simp)]; exact ⟨rfl, .cons ry r2⟩)
      · obtain ⟨h1, h2⟩ := put_fld (f := f) ry (fs := fs) rfl r2
        rw [if_neg h]
        first
          | (rw [if_neg (by simpa using h)]; exact ⟨by simp [h1], .cons r1 h2⟩)
          | exact ⟨by simp [h, h1], by simpa [h] using RepL.cons r1 h2⟩
theorem st_setf {i : Nat} {f : Str} {o v : Expr} {v' : E} {p' pos : Pos} (hcl : ∀ c, Y.ok c → Cls X.K (Y.ca c) ∧ NoAttr X.K (Y.ca c) f) (ho : PE X o (rdX Y W U (.pk i))) (hv : PE X v (rdX Y W U v')) (hs : swapsWith v (some (.Attribute o f p')) pos.line X.env = pure false := by rfl) :
    PS X (.Assign [.Attribute o f p'] v pos) (rdS Y W U (.setf f i v')) := by
  refine (ps_fld ho hv hs).imp fun D1 σ H ⟨G, R, en, S, q⟩ => ⟨G, R, en, S, ?_⟩
  rw [evS] at q
  refine PstS.bindE q fun av1 en1 w H1 G1 hev s1 k1 S1 o1 q1 => ?_
  unfold stfFin at q1
  split at q1
  · rename_i d ow c ns xs hi
    split at q1
    · rename_i hw
      obtain ⟨hown, hlen⟩ := Bool.and_eq_true_iff.mp hw
      have hlen := of_decide_eq_true hlen
      obtain ⟨a, f1, f2⟩ := S1.own i ow _ hi hown
      refine rd.mk S1 ?_
      show Pst Y W (okA Y) G1 R σ en1 (match en1[i]? with | some (some _) => .ok (.p i) en1 | _ => .bad) _
      rw [hi]
      intro z H2 G2 s2 k2 S2 o2
      have o2 : σ[i]? = some (some z) := o2
      obtain ⟨a', g1, g2⟩ := S2.own i ow _ hi hown
      rw [g1] at o2
      cases o2
      have ry : Rep Y G2 w d := Rep.mono s2 o1
      obtain ⟨o3, ho3, _⟩ := g2.t.at
      cases ht : g2.t with
      | obj hok h1 h2 h3 h4 =>
        obtain ⟨hc1, hc2⟩ := hcl _ hok
        obtain ⟨j1, j2⟩ := put_fld (f := f) ry h3 h4
        refine ⟨a', _, _, _, rfl, h1, hc1, hc2, by rw [← List.length_map (·.1), h3]; exact hlen, ?_⟩
        have q2 := PstS.weak (r := .ok .nx (en1.set i (some (ow, .obj c (fldSet f d ns xs).1 (fldSet f d ns xs).2)))) q1 s2 (k2.trans (Keep.setSame (d' := .obj c (fldSet f d ns xs).1 (fldSet f d ns xs).2) hi rfl))
        exact PstS.now (S2.write hi hown g1 (.obj hok upd_same h2 j1 j2)) q2
    · exact q1.elim
  · exact q1.elim
end
/-! ### the program's classes, as Bools -/
def tyNs : List String := ["NoneType", "bool", "int", "str", "tuple", "list", "dict"]
def ic1B (K : PySem.W.Frag) (xs : List Str) (m c : Nat) : Bool :=
  (He.Fa.cls (xs.getD c "")).ok K && (He.eqO (PySem.W.findIn K (.ref (caOf K xs c)) "__class__") (some (some (.builtin "object.__class__"))) && (He.eqO (PySem.W.specialIn K (.builtin "object.__class__") "__get__") (some (some (.builtin "getset_descriptor.__get__"))) &&
  (decide (PySem.W.takesIn K (.builtin "object.__class__") = some true) && (decide (PySem.W.mroIn K (caOf K xs c) (.type "object") = some true) && (tyNs.all (fun t => decide (PySem.W.kitOne K (.type t) (.ref (caOf K xs c)) = some false)) &&
  (tyNs.all (fun t => decide (PySem.W.kitOne K (.ref (caOf K xs c)) (.type t) = some false)) && (List.range xs.length).all (fun c' => decide (c' < m) || decide (PySem.W.kitOne K (.ref (caOf K xs c)) (.ref (caOf K xs c')) = some (decide (c' = c))))))))))
def icB (K : PySem.W.Frag) (xs : List Str) (m : Nat) : Bool := (List.range xs.length).all fun c => decide (c < m) || ic1B K xs m c
theorem icB_ok {K : PySem.W.Frag} {xs : List Str} {m : Nat} {Y : Wd} (h : icB K xs m = true) (hok : ∀ c, Y.ok c → m ≤ c ∧ c < xs.length) (hca : Y.ca = caOf K xs) : IsC Y K := by
  have at_ : ∀ c, Y.ok c → ic1B K xs m c = true := fun c hc => by
    obtain ⟨h1, h2⟩ := hok c hc
    have := List.all_eq_true.mp h c (List.mem_range.mpr h2)
    rcases Bool.or_eq_true_iff.mp this with z | z
    · have := of_decide_eq_true z; omega
    · exact z
  have parts : ∀ c, Y.ok c → (He.Fa.cls (xs.getD c "")).ok K = true ∧ PySem.W.findIn K (.ref (caOf K xs c)) "__class__" = some (some (.builtin "object.__class__")) ∧ PySem.W.specialIn K (.builtin "object.__class__") "__get__" = some (some (.builtin "getset_descriptor.__get__")) ∧ PySem.W.takesIn K (.builtin "object.__class__") = some true ∧
      PySem.W.mroIn K (caOf K xs c) (.type "object") = some true ∧ (∀ t ∈ tyNs, PySem.W.kitOne K (.type t) (.ref (caOf K xs c)) = some false) ∧ (∀ t ∈ tyNs, PySem.W.kitOne K (.ref (caOf K xs c)) (.type t) = some false) ∧ ∀ c', Y.ok c' → PySem.W.kitOne K (.ref (caOf K xs c)) (.ref (caOf K xs c')) = some (decide (c' = c)) := fun c hc => by
    have q := at_ c hc
    unfold ic1B at q
    simp only [Bool.and_eq_true] at q
    obtain ⟨q1, q2, q3, q4, q5, q6, q7, q8⟩ := q
    refine ⟨q1, He.eqO_ok q2, He.eqO_ok q3, of_decide_eq_true q4, of_decide_eq_true q5, fun t ht => of_decide_eq_true (List.all_eq_true.mp q6 t ht), fun t ht => of_decide_eq_true (List.all_eq_true.mp q7 t ht), fun c' hc' => ?_⟩
    obtain ⟨h1, h2⟩ := hok c' hc'
    have := List.all_eq_true.mp q8 c' (List.mem_range.mpr h2)
    rcases Bool.or_eq_true_iff.mp this with z | z
    · have := of_decide_eq_true z; omega
    · exact of_decide_eq_true z
  refine ⟨fun c hc => ?_, fun t c d hc e => ?_, fun c c' hc hc' => ?_, fun c t hc ht => ?_⟩
  · obtain ⟨q1, q2, q3, q4, q5, _⟩ := parts c hc
    rw [hca]
    exact ⟨He.cls_ok q1, q2, q3, q4, q5⟩
  · rw [hca]
    refine (parts c hc).2.2.2.2.2.1 t ?_
    cases d <;> cases e <;> decide
  · rw [hca]
    exact (parts c hc).2.2.2.2.2.2.2 c' hc'
  · rw [hca]
    refine (parts c hc).2.2.2.2.2.2.1 (tyN t) ?_
    cases t <;> first | decide | exact absurd rfl (ht _)
/-- the exceptions stand first among the classes -/
theorem caOf_app {K : PySem.W.Frag} {xe ys : List Str} {c : Nat} (h : c < xe.length) : caOf K (xe ++ ys) c = caOf K xe c := by
  unfold caOf
  congr 1
  rw [List.getD_eq_getElem?_getD, List.getD_eq_getElem?_getD, List.getElem?_append_left h]
theorem isB_okA {K : PySem.W.Frag} {xe ys : List Str} {q : Value × List Nat} (h : isB K xe q = true) {c : Nat} (hc : c < xe.length) : PySem.W.kitOne K (.ref (caOf K (xe ++ ys) c)) q.1 = some (q.2.contains c) := by rw [caOf_app hc]; exact isB_ok h hc
theorem exmB_okA {K : PySem.W.Frag} {xe ys : List Str} {q : Addr × List Nat} (h : exmB K xe q = true) {c : Nat} (hc : c < xe.length) : PySem.W.exmOne K (.ref (caOf K (xe ++ ys) c)) (.ref q.1) = some (q.2.contains c) := by rw [caOf_app hc]; exact exmB_ok h hc
theorem noatB_okA {K : PySem.W.Frag} {xe ys : List Str} {f : Str} (h : noatB K xe f = true) {c : Nat} (hc : c < xe.length) : PySem.W.findIn K (.ref (caOf K (xe ++ ys) c)) f = some none := by rw [caOf_app hc]; exact noatB_ok h hc
theorem exnsB_okA {K : PySem.W.Frag} {xe ys : List Str} (h : exnsB K xe = true) {c : Nat} (hc : c < xe.length) : ExcC K (caOf K (xe ++ ys) c) ∧ XfC K (caOf K (xe ++ ys) c) := by rw [caOf_app hc]; exact exnsB_ok h hc
/-- a field that no class of instances has of itself -/
def noinB (K : PySem.W.Frag) (xs : List Str) (m : Nat) (f : Str) : Bool := (List.range xs.length).all fun c => decide (c < m) || He.eqO (PySem.W.findIn K (.ref (caOf K xs c)) f) (some none)
theorem noinB_ok {K : PySem.W.Frag} {xs : List Str} {m c : Nat} {f : Str} (h : noinB K xs m f = true) (h1 : m ≤ c) (h2 : c < xs.length) : NoAttr K (caOf K xs c) f := by
  have := List.all_eq_true.mp h c (List.mem_range.mpr h2)
  rcases Bool.or_eq_true_iff.mp this with z | z
  · have := of_decide_eq_true z; omega
  · exact He.eqO_ok z
end L3

/-! L3W: a lambda with one number as default, handed to the def that tries; defs as values. -/
namespace L3
open PySem PySem.Spec PyProof.Rows L2
/-- one parameter, o, which is no name of the maker's; captured ones and globals -/
structure LamO (N : List Str) (o : Str) (sc scope : Scope) : Prop where
  kind : scope.kind = .function
  co : scope.isCoroutine = false
  gen : scope.isGenerator = false
  own : ∀ y ∈ scope.names, y.2 ≠ .cell ∧ (y.2 = .local → y.1 = o)
  free : ∀ y ∈ scope.names, y.2 = .free → sc.names.lookup y.1 = some .cell ∨ sc.names.lookup y.1 = some .free
  no : o ∉ N
  loc : scope.names.lookup o = some .local
def lamOB (N : List Str) (o : Str) (sc scope : Scope) : Bool :=
  decide (scope.kind = .function) && !scope.isCoroutine && !scope.isGenerator && (scope.names.all fun y => !decide (y.2 = .cell) && (!decide (y.2 = .local) || decide (y.1 = o)) && (!decide (y.2 = .free) || decide (sc.names.lookup y.1 = some .cell) || decide (sc.names.lookup y.1 = some .free))) &&
    !N.contains o && decide (scope.names.lookup o = some .local)
theorem lamO_by {N : List Str} {o : Str} {sc scope : Scope} (h : lamOB N o sc scope = true) : LamO N o sc scope := by
  unfold lamOB at h
  simp only [Bool.and_eq_true, Bool.or_eq_true, Bool.not_eq_true', decide_eq_true_eq, decide_eq_false_iff_not, List.all_eq_true] at h
  obtain ⟨⟨⟨⟨⟨h1, h2⟩, h3⟩, h4⟩, h5⟩, h6⟩ := h
  refine ⟨h1, h2, h3, fun y hy => ⟨(h4 y hy).1.1, fun e => ?_⟩, fun y hy e => ?_, fun m => ?_, h6⟩
  · rcases (h4 y hy).1.2 with z | z
    · exact absurd e z
    · exact z
  · rcases (h4 y hy).2 with (z | z) | z
    · exact absurd e z
    · exact .inl z
    · exact .inr z
  · rw [List.contains_iff_mem.mpr m] at h5; cases h5
section
variable {X : Cx} {o : Str}
theorem LamO.has {scope : Scope} (L : LamO X.N o X.env.scope scope) (ok : X.Ok) : ∀ y ∈ scope.names, y.2 = .free → ∃ c, X.env.cells.lookup y.1 = some c := fun y hy e => by
  rcases L.free y hy e with k | k
  · exact ok.has _ (.inl k)
  · exact ok.has _ (.inr k)
abbrev lamDO (X : Cx) (params : Arguments) (body : Expr) (scope : Scope) (t0 : Addr) (doc pm : Value) (c' : Addr) (ctv : Value) : Obj :=
  PySem.W.kdv_obj "<lambda>" (X.env.qual ++ "<lambda>") params (.expr body) scope (cloFrom X.env.cells scope.names []) (.ref t0) doc pm c' ctv
variable {pins : List (Addr × Obj)} {σ : L2.St} {H HZ : Hp} {s s1 : Shared}
/-- the lambda is made, and the tuple of its default -/
theorem lam_makeO {T : List (Addr × Str)} {c P : Addr} {params : Arguments} {body : Expr} {scope : Scope} {pos cp : Pos} {z : Int} {j : Nat} {E : Value → Shared → Prop} {Q : Value → Shared → Prop} (I : Inv X pins σ H s) (TB : LamX.TabB X.base X.mg c P) (hcode : X.env.code = .ref c)
    (hm : (P, X.env.qual ++ "<lambda>") ∈ T) (hu : ∀ p ∈ T, p.1 = P → p.2 = X.env.qual ++ "<lambda>") (hT : LamX.Tabs T H) (hdef : params.defaults = [.Constant (.int z) j cp]) (hkd : params.kw_defaults = []) (hfree : ∀ y ∈ scope.names, y.2 = .free → ∃ c, X.env.cells.lookup y.1 = some c)
    (h : ∀ (f c' t0 : Addr) (tk : Tok) (doc pm ctv : Value) (H1 : Hp) (s' : Shared), Inv X pins σ H1 s' → LamX.ExtN H H1 → LamX.Tabs T H1 →
      s'.heap.get? f = some (lamDO X params body scope t0 doc pm c' ctv) → s'.heap.get? t0 = some (PySem.W.kdv_tup [.int z tk]) → H1 f = none → H1 t0 = none → f ∉ frs X.stack → t0 ∉ frs X.stack → H1 c' = some (LamX.CodeO c' (X.env.qual ++ "<lambda>")) → Q (.ref f) s') :
    wpAny (model X.prog X.w) X.A (eval (.Lambda params body scope pos) X.env) Q E s := by
  refine PySem.W.kdv_lam (by rw [hdef]; rfl) hkd ?_
  rw [hdef]
  refine PySem.W.kdv_all1 (wpAny_Constant_int ?_)
  refine PySem.W.kdv_all0 ?_
  rw [makeFunction_eq]
  simp only [List.zip_nil_right, List.filterMap_nil, List.isEmpty_nil, List.isEmpty_cons, if_true, pure_bind, Bool.false_eq_true, if_false]
  refine wpAny_bind (wpAny_newTextTuple ?_)
  have I0 := I.tok (s.toks + 1)
  obtain ⟨ps, hP, ht, ha⟩ := hT _ hm
  generalize hs0 : ({ s with toks := s.toks + 1 } : Shared) = s0 at I0 ⊢
  have I1 : Inv X pins σ H { s0 with heap := s0.heap.push (PySem.W.kdv_tup [.int z s.toks]) } := Inv.kept (t' := s0.toks) I0 fun b u e => Heap.get?_push_of_some _ e
  have ht0 : (s0.heap.push (PySem.W.kdv_tup [.int z s.toks])).get? s0.heap.objs.size = some (PySem.W.kdv_tup [.int z s.toks]) := Heap.get?_push_size _ rfl
  have n0 : H s0.heap.objs.size = none := I0.hok.fresh (Nat.le_refl _)
  have nofr : ∀ f, s0.heap.objs.size ≤ f → f ∉ frs X.stack := fun f hf z => by
    rcases List.mem_cons.mp (I0.stkSub _ z) with e | e
    · have h1 := I0.lt
      rw [← e] at h1
      exact Nat.lt_irrefl _ (Nat.lt_of_lt_of_le h1 hf)
    · exact I0.nofs hf e
  have fr0 := nofr _ (Nat.le_refl _)
  have lt0 : s0.heap.objs.size < (s0.heap.push (PySem.W.kdv_tup [.int z s.toks])).objs.size := by rw [Heap.size_push]; omega
  generalize s0.heap.push (PySem.W.kdv_tup [.int z s.toks]) = hp at I1 ht0 lt0 ⊢
  have bP : hp.BuiltinsAt X.mg P := TB.bm.keeps I1.bk
  have hP' : hp.get? P = some { cls := .none, data := .fields ps } := I1.hok P _ hP
  cases hc : codeAmong pos ps.toList with
  | none =>
    refine PySem.W.kdv_makeTail (mg := X.mg) (c := c) (P := P) (ps := ps) (L2.closure_ok hfree) I.ok.glob (I.mod.glob.keeps I1.bk) hcode (TB.code.keeps I1.bk) hP' ht hc TB.gP bP fun c' ctv doc h' tk hx hge hlt hrec htb => ?_
    obtain ⟨c2, oc, vs, t, e2, hoc, hd, hv⟩ := hrec
    cases e2
    have hsz : hp.objs.size ≤ h'.objs.size := Nat.le_trans hge (Nat.le_of_lt hlt)
    have nC : H c' = none := I1.hok.fresh hge
    have I2 := LamX.inv_table (t' := tk) (more := #[rawInt pos.line, rawInt pos.col, .ref c']) (h' := h'.push (lamDO X params body scope s0.heap.objs.size doc ((X.mg "__name__").getD .none) c' ctv)) I1 hP
      (fun b o hb e => Heap.get?_push_of_some _ (hx b o hb e)) (Heap.get?_push_of_some _ htb) hge ⟨oc, vs, t, Heap.get?_push_of_some _ hoc, hd, hv⟩
    have hE : LamX.ExtN H (upd (upd H P (.tbl (ps ++ #[rawInt pos.line, rawInt pos.col, .ref c']))) c' (LamX.CodeO c' (X.env.qual ++ "<lambda>"))) := fun b o e n => by
      rw [upd_ne (ne_of_none e nC), upd_ne (fun z => n ps (Option.some.inj (e.symm.trans (by rw [z]; exact hP))))]
      exact e
    have eL : (ps ++ #[rawInt pos.line, rawInt pos.col, .ref c']).toList = ps.toList ++ [rawInt pos.line, rawInt pos.col, .ref c'] := by simp
    have szP : P < s0.heap.objs.size := Heap.lt_size (I0.hok P _ hP)
    refine h h'.objs.size c' s0.heap.objs.size s.toks doc ((X.mg "__name__").getD .none) ctv _ _ I2 hE (fun p hp => ?_) (Heap.get?_push_size _ rfl) (Heap.get?_push_of_some _ (hx _ _ (Nat.ne_of_gt szP) ht0)) ?_ ?_ (nofr _ (Nat.le_trans (Nat.le_of_lt lt0) hsz)) fr0 upd_same
    · by_cases hb : p.1 = P
      · rw [hu p hp hb, hb]
        refine ⟨_, by rw [upd_ne (ne_of_none hP nC), upd_same], by rw [eL]; exact PySem.TriplesOk_snoc _ _ _ _ ht, fun p' cv hcv => ?_⟩
        rw [eL] at hcv
        rcases LamX.among_app _ ht hcv with z | z
        · obtain ⟨c0, e1, e2⟩ := ha p' cv z
          exact ⟨c0, e1, hE _ _ e2 LamX.codeO_ne⟩
        · exact ⟨c', z, upd_same⟩
      · obtain ⟨ps', a1, a2, a3⟩ := hT p hp
        refine ⟨ps', by rw [upd_ne (ne_of_none a1 nC), upd_ne hb]; exact a1, a2, fun p' cv hcv => ?_⟩
        obtain ⟨c0, e1, e2⟩ := a3 p' cv hcv
        exact ⟨c0, e1, hE _ _ e2 LamX.codeO_ne⟩
    · have n1 : h'.objs.size ≠ c' := Nat.ne_of_gt hlt
      have n2 : h'.objs.size ≠ P := Nat.ne_of_gt (Nat.lt_of_lt_of_le (Heap.lt_size hP') hsz)
      rw [upd_ne n1, upd_ne n2]
      exact I1.hok.fresh hsz
    · have n1 : s0.heap.objs.size ≠ c' := Nat.ne_of_lt (Nat.lt_of_lt_of_le lt0 hge)
      rw [upd_ne n1, upd_ne (Nat.ne_of_gt szP)]
      exact n0
  | some cv =>
    obtain ⟨c', e, hco⟩ := ha pos cv hc
    subst e
    refine PySem.W.kdv_makeTailHit (mg := X.mg) (c := c) (P := P) (ps := ps) (L2.closure_ok hfree) I.ok.glob (I.mod.glob.keeps I1.bk) hcode (TB.code.keeps I1.bk) hP' ht hc bP fun ctv doc h' tk hx hsz => ?_
    have I2 : Inv X pins σ H { s0 with heap := h'.push (lamDO X params body scope s0.heap.objs.size doc ((X.mg "__name__").getD .none) c' ctv), toks := tk } := I1.kept fun b o e => Heap.get?_push_of_some _ (hx b o e)
    exact h h'.objs.size c' s0.heap.objs.size s.toks doc ((X.mg "__name__").getD .none) ctv H _ I2 (LamX.ExtN.refl H) hT (Heap.get?_push_size _ rfl) (Heap.get?_push_of_some _ (hx _ _ ht0)) (I1.hok.fresh hsz) n0 (nofr _ (Nat.le_trans (Nat.le_of_lt lt0) hsz)) fr0 hco
theorem lam_startO {A : Around} {outer : List Env} {E : XK} {scope : Scope} {f c' : Addr} {h₁ : Heap} {tk : Nat} {u : Value} (I : Inv X pins σ H s) (L : LamO X.N o X.env.scope scope) (e0 : Env0 X.prog X.w X.K X.mg X.base A outer s1 HZ) (hd : A.handled = none)
    (un : Un (frs X.stack) [] H HZ s.heap s1.heap) (hns : h₁.Ns s1.heap.objs.size fun y => [(o, u)].reverse.lookup y) (kp : ∀ b o, s1.heap.get? b = some o → h₁.get? b = some o) :
    Inv (LamX.lamCx X A outer s1 HZ E scope f c') [] σ HZ { s1 with heap := h₁, toks := tk } := by
  have hfree := L.has I.ok
  have cm : ∀ {y c}, (cloFrom X.env.cells scope.names []).lookup y = some c → X.env.cells.lookup y = some c := fun {y c} e => by
    rcases cloFrom_mem (PySem.mem_of_lookup e) with hm | ⟨h1, h2⟩
    · cases hm
    · obtain ⟨c1, hc⟩ := hfree _ h1 rfl
      have hc : X.env.cells.lookup y = some c1 := hc
      have e2 : c = c1 := by
        rw [h2, hc] <;> rfl
      rw [e2]
      exact hc
  have look : ∀ {y}, scope.names.lookup y = some .free → ∃ c, (cloFrom X.env.cells scope.names []).lookup y = some c := fun {y} hl => by
    have hy : (y, NameKind.free) ∈ scope.names := PySem.mem_of_lookup hl
    exact mem_lookup (cloFrom_has (cells := X.env.cells) (acc := []) hy)
  have cellK : ∀ {c : Addr} {v : Option Value}, H c = none → s.heap.IsCell c v → h₁.IsCell c v := fun {c v} n ⟨o, ho, hd⟩ => by
    obtain ⟨sl, q⟩ := un.any ho n (by simp)
    exact ⟨_, kp _ _ q, hd⟩
  have noA : ∀ b : Addr, b ∉ (LamX.lamCx X A outer s1 HZ E scope f c').ex := fun b z => absurd (show b ∈ ([] : List Addr) from z) (by simp)
  refine ⟨⟨e0.mod, L.kind, rfl, rfl, Nat.le_refl _, fun y z c e1 e2 => I.ok.inj y z c (cm e1) (cm e2), fun y hy => ?_, fun y c z _ => ?_, fun _ => hd, Around.frames_deeper e0.frames, .inr ⟨rfl, rfl⟩, fun b z => absurd z (noA b), e0.bs, e0.bsz, fun b _ _ => noA b,
      fun b z => absurd z (noA b), e0.funs, e0.frf⟩,
    rfl, e0.bare, Un.kept kp, ⟨_, hns, fun i y v e1 e2 e3 => ?_⟩, fun y c e => ?_, e0.hok.fresh (Nat.le_refl _), fun y c e => ?_, fun q hq => absurd (show q ∈ ([] : List (Addr × Obj)) ++ [] from hq) (by simp), e0.hok.kept kp, I.len⟩
  · have hy : scope.names.lookup y = some .cell ∨ scope.names.lookup y = some .free := hy
    rcases hy with hy | hy
    · exact absurd rfl (L.own _ (PySem.mem_of_lookup hy)).1
    · exact look hy
  · have z : false = true := z
    cases z
  · have e3 : Vis scope y := e3
    have e1 : X.N[i]? = some y := e1
    rcases e3 with k | k | k
    · refine absurd (List.mem_of_getElem? e1) ?_
      have hy : y = o := (L.own _ (PySem.mem_of_lookup k)).2 rfl
      rw [hy]; exact L.no
    · exact absurd rfl (L.own _ (PySem.mem_of_lookup k)).1
    · obtain ⟨m, hn, hl⟩ := I.loc
      have hvis : Vis X.env.scope y := (L.free _ (PySem.mem_of_lookup k) rfl).elim (fun k => .inr (.inl k)) (fun k => .inr (.inr k))
      obtain ⟨w', r, q⟩ := hl i y v e1 e2 hvis
      obtain ⟨c2, h2⟩ := look k
      refine ⟨w', r, .inr ⟨.inr k, c2, h2, ?_⟩⟩
      have c1 := cm h2
      rcases q with ⟨k', _⟩ | ⟨_, c3, e', z⟩
      · have k' : X.env.scope.names.lookup y = some .local := k'
        rcases L.free _ (PySem.mem_of_lookup k) rfl with k2 | k2 <;> rw [show X.env.scope.names.lookup y = _ from k2] at k' <;> cases k'
      · rw [c1] at e'
        cases e'
        exact cellK (I.freeC y _ c1) z
  · obtain ⟨w', z⟩ := I.cell y c (cm e)
    exact ⟨w', cellK (I.freeC y c (cm e)) z⟩
  · obtain ⟨v, o, ho, hd⟩ := I.cell y c (cm e)
    exact un.free c o ho (I.freeC y c (cm e)) (by simp)
/-- how the default is bound -/
def BindO (params : Arguments) (body : Expr) (scope : Scope) (o : Str) : Prop := ∀ (q : Str) (cl : List (Str × Addr)) (dV doc pm cv ctv : Value), ∃ k : Option (Array Value) → Sem (List (Str × Value)),
  bindArgs (PySem.W.kdv_fn "<lambda>" q params (.expr body) scope cl dV doc pm cv ctv) ⟨[], []⟩ = seqItems? dV >>= k ∧ ∀ v, k (some #[v]) = pure [(o, v)]
theorem pe_actO {CXg : CXT} {Eg : XK} {Ng : List Str} {qg : Str} {sg : Scope} {g f c' t0 : Addr} {cdg doc pm ctv : Value} {params : Arguments} {body : Expr} {scope : Scope} {k i : Nat} {a : Str} {z : Int} {tk0 : Tok} {pn : List (Addr × Obj)} {xe : Value → Shared → Prop} {W : WX} {E : XK} {tb : TE} {p1 p2 : Pos}
    (I : Inv X pins σ H s) (L : LamO X.N o X.env.scope scope) (hf : s.heap.get? f = some (lamDO X params body scope t0 doc pm c' ctv)) (ht0 : s.heap.get? t0 = some (PySem.W.kdv_tup [.int z tk0])) (hfn : H f = none) (htn : H t0 = none) (hfr : f ∉ frs X.stack) (htr : t0 ∉ frs X.stack)
    (hbind : BindO params body scope o)
    (tk : Takes ((cxOf CXg X.prog X.w X.K X.mg X.base Ng qg sg g cdg X.A X.stack s H Eg).tr pn xe) W) (hW : ∀ cls d σ' H', E cls d H' → W cls d σ' H') (hr : Room (k + 1) (X.A.deeper (envOfC qg sg s.heap.objs.size g cdg)))
    (hbody : ∀ (A : Around) (outer : List Env) (s : Shared) (H : Hp), Room k (A.deeper (LamX.lamEnv X scope s.heap.objs.size f c')) → PE (LamX.lamCx X A outer s H E scope f c') body tb)
    (hN : Ng[i]? = some a) (hv : Vis sg a) (hd : (a == ("__debug__" : Str)) = false := by decide) (hcd : (a == ("__classdict__" : Str)) = false := by decide) :
    PE ((cxOf CXg X.prog X.w X.K X.mg X.base Ng qg sg g cdg X.A X.stack s H Eg).tr pn xe) (.Call (.Name a p1) [] [] p2)
      (fun σZ HZ Q => σZ[i]? = some (some (.ref f)) ∧ HZ c' = some (LamX.CodeO c' (X.env.qual ++ "<lambda>")) ∧ tb σ HZ Q) := by
  refine ⟨fun pinsZ sZ σZ HZ Q IZ h => ?_⟩
  obtain ⟨hs, hc, ht⟩ := h
  refine wpAny_Call_Name_kw (thn ((pe_var (pos := p1) (i := i) hN hv hd hcd).run pinsZ sZ σZ HZ (fun v H1 => v = .ref f ∧ H1 = HZ) IZ ⟨.ref f, hs, rfl, rfl⟩) fun u s1 ⟨v, H1, I1, r1, q1⟩ => ?_)
  obtain ⟨ev, eH⟩ := q1
  subst ev
  rw [eH] at I1
  obtain rfl : u = Value.ref f := r1
  have of1 : s1.heap.get? f = some (lamDO X params body scope t0 doc pm c' ctv) := I1.base.keep f _ hf hfn hfr (fun z => nomatch (show f ∈ ([] : List Addr) from z))
  have ot1 : s1.heap.get? t0 = some (PySem.W.kdv_tup [.int z tk0]) := I1.base.keep t0 _ ht0 htn htr (fun z => nomatch (show t0 ∈ ([] : List Addr) from z))
  refine PySem.W.callWith_F0 ⟨_, _, _, _, of1⟩ ?_
  have un : Un (frs X.stack) [] H HZ s.heap s1.heap := I1.base
  obtain ⟨⟨oc, vs, t, hoc, hdc, hvc⟩, _, _⟩ := I1.hok c' _ hc
  have rc : codeAny (model X.prog X.w) (X.A.deeper (envOfC qg sg s.heap.objs.size g cdg)) (.call (.ref f) ⟨[], []⟩) (CR (L2.CX X.prog X.w) (envOfC qg sg s.heap.objs.size g cdg :: X.stack) X.prog X.w HZ s1 Q E) s1 := by
    refine PySem.W.kla_callFunE hr.depth of1 rfl L.co L.gen rfl ⟨c', oc, vs, t, rfl, hoc, hdc, hvc⟩ ?_
    obtain ⟨kk, e1, e2⟩ := hbind (X.env.qual ++ "<lambda>") (cloFrom X.env.cells scope.names []) (.ref t0) doc pm (.ref c') ctv
    refine BindsTo.of_defaults (fd := PySem.W.kdv_fn "<lambda>" (X.env.qual ++ "<lambda>") params (.expr body) scope (cloFrom X.env.cells scope.names []) (.ref t0) doc pm (.ref c') ctv) (binds := [(o, .int z tk0)]) rfl ot1 rfl e1 (e2 _) _ _ _ _ ?_
    refine wpAny_newFunctionEnv (fun y hy => (L.own y hy).1) (fun y hy => by rcases List.mem_singleton.mp hy with rfl; exact L.loc) (fun h₁ hns hsb => ⟨I1.nolimit.fresh _ hsb, ?_⟩) L.kind
    show codeAny _ _ (.expr body (LamX.lamEnv X scope s1.heap.objs.size f c')) _ _
    have kp : ∀ b o, s1.heap.get? b = some o → h₁.get? b = some o := fun b o e => hsb.extBut b o (Nat.ne_of_lt (Heap.lt_size e)) (Heap.get?_push_of_some _ e)
    have J := lam_startO (A := X.A.deeper (envOfC qg sg s.heap.objs.size g cdg)) (outer := envOfC qg sg s.heap.objs.size g cdg :: X.stack) (E := E) (f := f) (c' := c') (tk := s1.toks + [(o, Value.int z tk0)].length) I L I1.env0 hr.hd un hns kp
    refine PySem.W.kla_codeExpr (wpAny_mono ((hbody _ _ s1 HZ (hr.deeper _)).run [] _ _ HZ Q J ht) (fun v s' hq => ?_) fun e s' hq => hq)
    obtain ⟨w', H', J', rv, q⟩ := hq
    exact ⟨w', H', J'.os, J'.bare, J'.base, J'.hok, rv, q⟩
  have hx : Passes (L2.CX X.prog X.w) ((cxOf CXg X.prog X.w X.K X.mg X.base Ng qg sg g cdg X.A X.stack s H Eg).tr pn xe) E := L2.passes_call tk hW
  refine wpAny_call (codeAny_mono rc fun r s' hq => ?_)
  cases r with
  | error e => exact hx pinsZ σZ HZ s1 e s' I1 hq
  | ok fl =>
    cases fl with
    | ret u => exact I1.after hq
    | next => exact False.elim hq
    | brk => exact False.elim hq
    | cont => exact False.elim hq
/-- x(lambda o=z: body) -/
theorem pe_lamcallO {T : List (Addr × Str)} {TT : (XK → Hp → VK → Prop) → Hp → VK → Prop} {x a : Str} {g c P : Addr} {k j : Nat} {z : Int} {pg : Arguments} {bg : List Stmt} {sg : Scope} {dV kV doc pm cdv ct oc : Value} {an od : Option Addr} {osl : Array (Option Value)} {Ng : List Str}
    {params : Arguments} {body : Expr} {scope : Scope} {t : XK → TE} {p lpos pos cp : Pos} (hg : Gl X x) (hm : X.mg x = some (.ref g)) (hk : PySem.W.keepIn X.K (.ref g) = true)
    (lk : X.K.lookup g = some ⟨oc, od, .func (PySem.W.fnOf x x pg bg sg dV kV doc pm an cdv ct), osl⟩) (hcg : PySem.W.codeIn X.K cdv x = true) (hb : L2.Binds X.K (PySem.W.fnOf x x pg bg sg dV kV doc pm an cdv ct) [a] []) (Sg : FnScope Ng [a] sg) (hNg : Ng[0]? = some a) (hva : Vis sg a)
    (hG : LamX.GivesTo X Ng x sg g cdv bg a (X.env.qual ++ "<lambda>") TT)
    (TB : LamX.TabB X.base X.mg c P) (hcode : X.env.code = .ref c) (hmT : (P, X.env.qual ++ "<lambda>") ∈ T) (hu : ∀ p ∈ T, p.1 = P → p.2 = X.env.qual ++ "<lambda>") (hr : Room (k + 2) X.A) (L : LamO X.N o X.env.scope scope) (hdef : params.defaults = [.Constant (.int z) j cp]) (hkd : params.kw_defaults = [])
    (hbind : BindO params body scope o)
    (hbody : ∀ (A : Around) (outer : List Env) (s : Shared) (H : Hp) (E : XK) (f c' : Addr), Room k (A.deeper (LamX.lamEnv X scope s.heap.objs.size f c')) → PE (LamX.lamCx X A outer s H E scope f c') body (t E))
    (hdb : (x == ("__debug__" : Str)) = false := by decide) (hd : (a == ("__debug__" : Str)) = false := by decide) (hcd : (a == ("__classdict__" : Str)) = false := by decide) :
    PE X (.Call (.Name x p) [.Lambda params body scope lpos] [] pos) (LamX.tLam T TT t) := by
  refine ⟨fun pins s σ H Q I h => ?_⟩
  obtain ⟨hT, h⟩ := h
  refine wpAny_Call_Name_kw (ld_glob I hg hm ?_ hdb)
  refine PySem.W.callWith_K (h₀ := X.base) I.ok.mod.kin hk ?_ (by rfl) (by rfl)
  show wpAny _ _ (spliced ((false, eval (.Lambda params body scope lpos) X.env) :: backTo pos (starEach [] X.env))) _ _ s
  refine Calls.spliced_cons (lam_makeO I TB hcode hmT hu hT hdef hkd (L.has I.ok) fun f c' t0 tk0 doc' pm' ctv H1 s' I1 eN T1 hf ht0 hfn htn hfr htr hco => ?_)
  refine Calls.spliced_nil ⟨I1.kIn, ?_⟩
  have rc : codeAny (model X.prog X.w) X.A (.call (.ref g) ⟨[.ref f], []⟩) (CR C8.CX0 X.stack X.prog X.w H1 s' Q C8.E0) s' := by
    refine LamX.run_ofS (N := Ng) (ps := [a]) (us := [.ref f]) (vs := [.ref f]) lk hcg Sg hr I1.env0 (hb s' [.ref f] I1.kIn rfl) (.cons rfl .nil) rfl fun hr' => ?_
    obtain ⟨t', ht', hq'⟩ := hG f c' s' H1 Q (fun E H' Q' => t E σ H' Q') (fun W pn xe E p1 p2 tk hW => pe_actO (i := 0) I1 L hf ht0 hfn htn hfr htr hbind tk hW hr' (fun A outer s H hr2 => hbody A outer s H E f c' hr2) hNg hva hd hcd) hco (h H1 eN T1)
    exact ⟨t', ht'.nox, hq'⟩
  refine wpAny_call (codeAny_mono rc fun r s2 hq => ?_)
  cases r with
  | error e => exact (show False from hq).elim
  | ok fl =>
    cases fl with
    | ret u => exact I1.after hq
    | next => exact False.elim hq
    | brk => exact False.elim hq
    | cont => exact False.elim hq
end
section
variable {X : Cx} {Y : Wd} {W : WX} {U : Ev}
theorem s_lamO {f : Nat} {e' : E} {x a o : Str} {g c P : Addr} {k j : Nat} {z : Int} {pg : Arguments} {bg : List Stmt} {sg : Scope} {Ng : List Str} {params : Arguments} {body : Expr} {scope : Scope} {p lpos pos cp : Pos}
    (D : WordOk X.K X.mg x g pg bg sg a) (Sg : FnScope Ng [a] sg) (hG : ∀ cdv, (∀ args, U.C f args = .bad) ∨ LamX.GivesTo X Ng x sg g cdv bg a (X.env.qual ++ "<lambda>") (TTw Y (U.C f)))
    (TB : LamX.TabB X.base X.mg c P) (hcode : X.env.code = .ref c) (hmT : (P, X.env.qual ++ "<lambda>") ∈ Y.T) (nd : (Y.T.map (·.1)).Nodup) (hr : Room (k + 2) X.A) (L : lamOB X.N o X.env.scope scope = true) (hbind : BindO params body scope o)
    (hbody : ∀ (A : Around) (outer : List Env) (s : Shared) (H : Hp) (E : XK) (f c' : Addr), Room k (A.deeper (LamX.lamEnv X scope s.heap.objs.size f c')) → PE (LamX.lamCx X A outer s H E scope f c') body (rdE Y (wE E) U e'))
    (hg : Gl X x := by rfl) (hNg : Ng[0]? = some a := by rfl) (hva : Vis sg a := by first | exact Or.inl rfl | exact Or.inr (Or.inl rfl) | exact Or.inr (Or.inr rfl)) (hdef : params.defaults = [.Constant (.int z) j cp] := by rfl) (hkd : params.kw_defaults = [] := by rfl)
    (hdb : (x == ("__debug__" : Str)) = false := by decide) (hd : (a == ("__debug__" : Str)) = false := by decide) (hcd : (a == ("__classdict__" : Str)) = false := by decide) :
    PE X (.Call (.Name x p) [.Lambda params body scope lpos] [] pos) (rdE Y W U (.lam f e')) := by
  obtain ⟨oc, od, dV, kV, doc, pm, an, cdv, ct, osl, lk, hcg, hb⟩ := D.ex
  rcases hG cdv with hb0 | hG
  · refine ⟨fun pins s σ H Q I h => ?_⟩
    obtain ⟨G, R, en, S, p⟩ := h
    rw [evE] at p
    simp only [hb0] at p
    split at p <;> exact p.elim
  · exact (pe_lamcallO hg D.hm D.hk lk hcg hb Sg hNg hva hG TB hcode hmT (hu_of nd hmT) hr (lamO_by L) hdef hkd hbind hbody hdb hd hcd).imp fun _ _ _ q => lam_red q
end
/-- the defs that are values, with where they are -/
def fvOf (K : PySem.W.Frag) : List (Nat × (Str × Option Str)) → Nat → Addr → Prop
  | [], _, _ => False
  | p :: ps, n, a => (n = p.1 ∧ a = He.fAd K p.2) ∨ fvOf K ps n a
section
variable {X : Cx} {Y : Wd} {W : WX} {U : Ev}
/-- a def as a value -/
theorem s_fnv {x : Str} {n : Nat} {at_ : Str × Option Str} {ps : List Str} {pos : Pos} (D : DefOk X.K X.mg x at_ ps) (h : Y.fv n (He.fAd X.K at_)) (hg : Gl X x := by rfl) (hd : (x == ("__debug__" : Str)) = false := by decide) : PE X (.Name x pos) (rdE Y W U (.cst (.set [(n : Int)]))) :=
  s_const (pe_glob (v := .ref (He.fAd X.K at_)) hg D.hm (show RelV (.ref _) (.ref _) from rfl) hd) fun _ => .fnv h
def CanCall (X : Cx) (Y : Wd) (U : Ev) (k f : Nat) (a : Addr) : Prop := ∃ fd ps, FnOk X.prog X.w X.K X.mg X.base (L2.CX X.prog X.w) k a fd ps (spF Y (U.C f)) ∧ PySem.W.keepIn X.K (.ref a) = true ∧ Binds X.K fd ps []
/-- a(e, ..), a local name that holds a def -/
theorem s_callL {i k : Nat} {fs : List Nat} {x : Str} {p pos : Pos} {e : Expr} {es : List Expr} {as' : Es} (A : ∀ f a, Y.fv f a → CanCall X Y U k f a) (hr : Room k X.A) (tk : Takes X W) (ha : PA X (e :: es) (rdA Y W U as')) (hN : X.N[i]? = some x := by rfl) (hv : Vis X.env.scope x := by first | exact Or.inl rfl | exact Or.inr (Or.inl rfl) | exact Or.inr (Or.inr rfl))
    (hdb : (x == ("__debug__" : Str)) = false := by decide) (hcd : (x == ("__classdict__" : Str)) = false := by decide) (he : starEach (e :: es) X.env = (false, eval e X.env) :: starEach es X.env := by rfl) (hpl : (backTo pos (starEach es X.env)).any (·.1) = false := by rfl) :
    PE X (.Call (.Name x p) (e :: es) [] pos) (rdE Y W U (.cl i fs as')) := by
  refine ⟨fun pins s σ H Q I h => ?_⟩
  obtain ⟨G, R, en, S, p⟩ := h
  rw [evE] at p
  split at p
  · rename_i ow m ei
    split at p
    · rename_i hh
      have ho : ow.isOwn = false := by cases ow <;> simp_all [Ow.isOwn]
      obtain ⟨v, hs, r⟩ := S.sh i ow _ ei ho
      cases r with
      | fnv hv1 =>
        rename_i a n
        obtain ⟨fd, ps, F, hk, hb⟩ := A n a hv1
        simp only [Int.toNat_natCast] at p
        refine wpAny_Call_Name_kw (thn ((pe_var (pos := _) hN hv hdb hcd).run pins s σ H (fun v H1 => v = .ref a ∧ H1 = H) I ⟨.ref a, hs, rfl, rfl⟩) fun u s1 ⟨v, H1, I1, r1, q1⟩ => ?_)
        obtain ⟨rfl, rfl⟩ := q1
        cases r1
        refine PySem.W.callWith_K (h₀ := X.base) I.ok.mod.kin hk (thn (ha.run pos pins s1 σ _ (fun vs H1 => spF Y (U.C n) vs H1 Q (WE W σ)) I1 ⟨G, R, en, S, ?_⟩) fun us s2 ⟨vs, H2, I2, r, q⟩ => ⟨I2.kIn, ?_⟩) he hpl
        · refine Pst.bind p fun avs en1 vs H1 G1 _ s1 k1 S1 o1 p1 => ?_
          unfold doCall at p1
          split at p1
          · exact p1.elim
          · rename_i args ep
            obtain ⟨P, _⟩ := pass_ok S1 ep o1
            refine ⟨G1, _, args, pass_sep S1 P, ?_⟩
            split at p1
            · exact p1.elim
            · rename_i d own outs ec
              rw [ec]
              split at p1
              · rename_i en2 eb
                have B := back_ok eb P.nd
                intro v H2 G2 s2 S2 o2
                obtain ⟨h1, h2, h3⟩ := back_sep S1 P s2 S2 B
                exact p1 v H2 G2 s2 h2 h1 (h3 v d own o2)
              · exact p1.elim
            · rename_i x outs ec
              rw [ec]
              split at p1
              · rename_i en2 eb
                have B := back_ok eb P.nd
                intro cls dd H2 G2 s2 S2 o2
                obtain ⟨h1, h2, h3⟩ := back_sep S1 P s2 S2 B
                exact p1 cls dd H2 G2 s2 h2 h1 o2
              · exact p1.elim
        · exact run_fnS F hr hb (passAt tk σ) I2 r q
    · exact p.elim
  · exact p.elim
end
end L3

namespace Law
open PySem PySem.Spec PyProof.Rows L2 L3
/-! ### the mini programs -/
def fn_is_integer : Fn := ⟨1, 1, [true], (.cons (.ret (.and (.op (.isi [.int]) (.cons (.pk 0) .nil)) (.nt (.op (.isi [.bool]) (.cons (.pk 0) .nil))))) .nil)⟩
def fn_common : Fn := ⟨2, 2, [false, false], (.cons (.par [0, 1] (.cons (.op .abs (.cons (.pk 0) .nil)) (.cons (.op .abs (.cons (.pk 1) .nil)) .nil))) (.cons (.whl (.op .gt (.cons (.pk 1) (.cons (.cst (.int 0)) .nil))) (.cons (.par [0, 1] (.cons (.var 1) (.cons (.op .mod (.cons (.pk 0) (.cons (.pk 1) .nil))) .nil))) .nil)) (.cons (.ret (.var 0)) .nil)))⟩
def fn_BadCoins___init__ : Fn := ⟨0, 0, [], .nil⟩
def fn_check_two : Fn := ⟨2, 3, [true, true], (.cons (.fr (.nm 2) .seq (.cons (.op .tup (.cons (.var 0) (.cons (.var 1) .nil))) .nil) (.cons (.ife (.or (.nt (.call 0 (.cons (.pk 2) .nil))) (.nt (.chn .le .le (.cst (.int 1)) (.pk 2) (.op (.glb (.int 10000000000000000000000000000000000000000000000000000000000000000000000000000000000000000000000000000)) .nil)))) (.cons (.rse 2 ["at"] (.cons (.op .neg (.cons (.cst (.int 1)) .nil)) .nil)) .nil) .nil) .nil)) (.cons (.ife (.op .ne (.cons (.call 1 (.cons (.var 0) (.cons (.var 1) .nil))) (.cons (.cst (.int 1)) .nil))) (.cons (.rse 2 ["at"] (.cons (.op .neg (.cons (.cst (.int 1)) .nil)) .nil)) .nil) .nil) .nil))⟩
def fn_check_number : Fn := ⟨1, 1, [true], (.cons (.ife (.or (.nt (.call 0 (.cons (.pk 0) .nil))) (.op .gt (.cons (.op .abs (.cons (.pk 0) .nil)) (.cons (.op .mul (.cons (.op .mul (.cons (.op (.glb (.int 10000000000000000000000000000000000000000000000000000000000000000000000000000000000000000000000000000)) .nil) (.cons (.op (.glb (.int 10000000000000000000000000000000000000000000000000000000000000000000000000000000000000000000000000000)) .nil) .nil))) (.cons (.op (.glb (.int 10000000000000000000000000000000000000000000000000000000000000000000000000000000000000000000000000000)) .nil) .nil))) .nil)))) (.cons (.rse 1 [] .nil) .nil) .nil) .nil)⟩
def fn_inverse_of : Fn := ⟨2, 7, [true, true], (.cons (.asg (.tp [2, 3, 4, 5]) (.op .tup (.cons (.cst (.int 1)) (.cons (.cst (.int 0)) (.cons (.op .mod (.cons (.pk 0) (.cons (.pk 1) .nil))) (.cons (.var 1) .nil)))))) (.cons (.whl (.op .ne (.cons (.pk 5) (.cons (.cst (.int 0)) .nil))) (.cons (.asg (.nm 6) (.op .fdiv (.cons (.pk 4) (.cons (.pk 5) .nil)))) (.cons (.par [4, 5] (.cons (.var 5) (.cons (.op .sub (.cons (.pk 4) (.cons (.op .mul (.cons (.pk 6) (.cons (.pk 5) .nil))) .nil))) .nil))) (.cons (.par [2, 3] (.cons (.var 3) (.cons (.op .sub (.cons (.pk 2) (.cons (.op .mul (.cons (.pk 6) (.cons (.pk 3) .nil))) .nil))) .nil))) .nil)))) (.cons (.ret (.op .mod (.cons (.pk 2) (.cons (.pk 1) .nil)))) .nil)))⟩
def fn_first_count : Fn := ⟨3, 3, [true, true, true], (.cons (.ret (.op .mod (.cons (.op .mul (.cons (.pk 2) (.cons (.call 5 (.cons (.pk 0) (.cons (.pk 1) .nil))) .nil))) (.cons (.pk 1) .nil)))) .nil)⟩
def fn_two_pay : Fn := ⟨3, 5, [true, true, true], (.cons (.ex (.call 3 (.cons (.pk 0) (.cons (.pk 1) .nil)))) (.cons (.ex (.call 4 (.cons (.pk 2) .nil))) (.cons (.asg (.nm 3) (.call 6 (.cons (.pk 0) (.cons (.pk 1) (.cons (.pk 2) .nil))))) (.cons (.asg (.nm 4) (.op .sub (.cons (.pk 2) (.cons (.op .mul (.cons (.pk 3) (.cons (.pk 0) .nil))) .nil)))) (.cons (.ret (.ite (.op .ge (.cons (.pk 4) (.cons (.cst (.int 0)) .nil))) (.op .tup (.cons (.var 3) (.cons (.op .fdiv (.cons (.pk 4) (.cons (.pk 1) .nil))) .nil))) (.cst .non))) .nil)))))⟩
def fn_two_ways : Fn := ⟨3, 4, [true, true, true], (.cons (.ex (.call 3 (.cons (.pk 0) (.cons (.pk 1) .nil)))) (.cons (.ex (.call 4 (.cons (.pk 2) .nil))) (.cons (.asg (.nm 3) (.op .sub (.cons (.pk 2) (.cons (.op .mul (.cons (.call 6 (.cons (.pk 0) (.cons (.pk 1) (.cons (.pk 2) .nil)))) (.cons (.pk 0) .nil))) .nil)))) (.cons (.ret (.ite (.op .ge (.cons (.pk 3) (.cons (.cst (.int 0)) .nil))) (.op .add (.cons (.op .fdiv (.cons (.pk 3) (.cons (.op .mul (.cons (.pk 0) (.cons (.pk 1) .nil))) .nil))) (.cons (.cst (.int 1)) .nil))) (.cst (.int 0)))) .nil))))⟩
def fn_two_fewest : Fn := ⟨3, 7, [true, true, true], (.cons (.ex (.call 3 (.cons (.pk 0) (.cons (.pk 1) .nil)))) (.cons (.ex (.call 4 (.cons (.pk 2) .nil))) (.cons (.par [3, 4] (.cons (.op .min2 (.cons (.pk 0) (.cons (.pk 1) .nil))) (.cons (.op .max2 (.cons (.pk 0) (.cons (.pk 1) .nil))) .nil))) (.cons (.asg (.nm 5) (.call 6 (.cons (.pk 3) (.cons (.pk 4) (.cons (.pk 2) .nil))))) (.cons (.asg (.nm 6) (.op .sub (.cons (.pk 2) (.cons (.op .mul (.cons (.pk 5) (.cons (.pk 3) .nil))) .nil)))) (.cons (.ret (.ite (.op .ge (.cons (.pk 6) (.cons (.cst (.int 0)) .nil))) (.op .add (.cons (.pk 5) (.cons (.op .fdiv (.cons (.pk 6) (.cons (.pk 4) .nil))) .nil))) (.cst .non))) .nil))))))⟩
def fn_two_most : Fn := ⟨3, 7, [true, true, true], (.cons (.ex (.call 3 (.cons (.pk 0) (.cons (.pk 1) .nil)))) (.cons (.ex (.call 4 (.cons (.pk 2) .nil))) (.cons (.par [3, 4] (.cons (.op .min2 (.cons (.pk 0) (.cons (.pk 1) .nil))) (.cons (.op .max2 (.cons (.pk 0) (.cons (.pk 1) .nil))) .nil))) (.cons (.asg (.nm 5) (.call 6 (.cons (.pk 4) (.cons (.pk 3) (.cons (.pk 2) .nil))))) (.cons (.asg (.nm 6) (.op .sub (.cons (.pk 2) (.cons (.op .mul (.cons (.pk 5) (.cons (.pk 4) .nil))) .nil)))) (.cons (.ret (.ite (.op .ge (.cons (.pk 6) (.cons (.cst (.int 0)) .nil))) (.op .add (.cons (.pk 5) (.cons (.op .fdiv (.cons (.pk 6) (.cons (.pk 3) .nil))) .nil))) (.cst .non))) .nil))))))⟩
def fn_two_signed : Fn := ⟨3, 4, [true, true, true], (.cons (.ex (.call 3 (.cons (.pk 0) (.cons (.pk 1) .nil)))) (.cons (.ex (.call 4 (.cons (.pk 2) .nil))) (.cons (.asg (.nm 3) (.call 6 (.cons (.pk 0) (.cons (.pk 1) (.cons (.pk 2) .nil))))) (.cons (.ret (.op .tup (.cons (.var 3) (.cons (.op .fdiv (.cons (.op .sub (.cons (.pk 2) (.cons (.op .mul (.cons (.pk 3) (.cons (.pk 0) .nil))) .nil))) (.cons (.pk 1) .nil))) .nil)))) .nil))))⟩
def fn__law_hand : Fn := ⟨1, 3, [true], (.cons (.asg (.nm 1) (.lc [2] (.nm 2) .seq (.cons (.slB (.pk 0) (.cst (.int 63))) .nil) (.cst (.bl true)) (.op .abs (.cons (.op .int (.cons (.pk 2) .nil)) .nil)))) (.cons (.ret (.op .lst (.cons (.var 1) (.cons (.cst (.int 0)) (.cons (.cst (.int 0)) (.cons (.op .add (.cons (.cst (.int 61)) (.cons (.op .mul (.cons (.cst (.int 9)) (.cons (.op .len (.cons (.pk 1) .nil)) .nil))) .nil))) (.cons (.cst (.int 0)) .nil))))))) .nil))⟩
def fn__law_draw : Fn := ⟨2, 5, [true, true], (.cons (.ife (.and (.op .eq (.cons (.op .idx (.cons (.pk 0) (.cons (.cst (.int 2)) .nil))) (.cons (.cst (.int 0)) .nil))) (.op .lt (.cons (.op .idx (.cons (.pk 0) (.cons (.cst (.int 1)) .nil))) (.cons (.op .len (.cons (.op .idx (.cons (.pk 0) (.cons (.cst (.int 0)) .nil))) .nil)) .nil)))) (.cons (.asg (.nm 2) (.op .idx (.cons (.op .idx (.cons (.pk 0) (.cons (.cst (.int 0)) .nil))) (.cons (.op .idx (.cons (.pk 0) (.cons (.cst (.int 1)) .nil))) .nil)))) (.cons (.seti 0 (.op .add (.cons (.op .idx (.cons (.pk 0) (.cons (.cst (.int 1)) .nil))) (.cons (.cst (.int 1)) .nil))) (.cst (.int 1))) (.cons (.seti 0 (.op .mod (.cons (.op .int (.cons (.op .add (.cons (.op .add (.cons (.op .mul (.cons (.op .idx (.cons (.pk 0) (.cons (.cst (.int 3)) .nil))) (.cons (.cst (.int 69621)) .nil))) (.cons (.pk 2) .nil))) (.cons (.cst (.int 17)) .nil))) .nil)) (.cons (.cst (.int 2147483629)) .nil))) (.cst (.int 3))) (.cons (.ife (.op .ge (.cons (.pk 2) (.cons (.op .pow (.cons (.cst (.int 10)) (.cons (.cst (.int 18)) .nil))) .nil))) (.cons (.seti 0 (.var 2) (.cst (.int 2))) .nil) .nil) .nil)))) .nil) (.cons (.ife (.op .gt (.cons (.op .idx (.cons (.pk 0) (.cons (.cst (.int 2)) .nil))) (.cons (.cst (.int 0)) .nil))) (.cons (.asg (.nm 3) (.op .mod (.cons (.op .int (.cons (.op .idx (.cons (.pk 0) (.cons (.cst (.int 2)) .nil))) .nil)) (.cons (.pk 1) .nil)))) (.cons (.seti 0 (.op .fdiv (.cons (.op .idx (.cons (.pk 0) (.cons (.cst (.int 2)) .nil))) (.cons (.pk 1) .nil))) (.cst (.int 2))) (.cons (.ret (.mv 3)) .nil))) .nil) (.cons (.seti 0 (.op .add (.cons (.op .idx (.cons (.pk 0) (.cons (.cst (.int 4)) .nil))) (.cons (.cst (.int 1)) .nil))) (.cst (.int 4))) (.cons (.asg (.nm 4) (.op .mod (.cons (.op .int (.cons (.op .mul (.cons (.op .int (.cons (.op .add (.cons (.op .idx (.cons (.pk 0) (.cons (.cst (.int 3)) .nil))) (.cons (.op .mul (.cons (.cst (.int 7919)) (.cons (.op .idx (.cons (.pk 0) (.cons (.cst (.int 4)) .nil))) .nil))) .nil))) .nil)) (.cons (.cst (.int 48271)) .nil))) .nil)) (.cons (.cst (.int 2147483647)) .nil)))) (.cons (.asg (.nm 4) (.op .mod (.cons (.op .int (.cons (.op .mul (.cons (.pk 4) (.cons (.op .add (.cons (.op .fdiv (.cons (.pk 4) (.cons (.cst (.int 1009)) .nil))) (.cons (.cst (.int 69621)) .nil))) .nil))) .nil)) (.cons (.cst (.int 2147483647)) .nil)))) (.cons (.asg (.nm 4) (.op .mod (.cons (.op .int (.cons (.op .mul (.cons (.pk 4) (.cons (.op .add (.cons (.op .fdiv (.cons (.pk 4) (.cons (.cst (.int 2003)) .nil))) (.cons (.cst (.int 40692)) .nil))) .nil))) .nil)) (.cons (.cst (.int 2147483399)) .nil)))) (.cons (.ret (.op .mod (.cons (.op .int (.cons (.op .fdiv (.cons (.pk 4) (.cons (.cst (.int 16)) .nil))) .nil)) (.cons (.pk 1) .nil)))) .nil)))))))⟩
def fn__law_some : Fn := ⟨2, 2, [true, true], (.cons (.ret (.op .idx (.cons (.pk 1) (.cons (.call 13 (.cons (.pk 0) (.cons (.op .len (.cons (.pk 1) .nil)) .nil))) .nil)))) .nil)⟩
def fn__law_is : Fn := ⟨2, 4, [true, true], (.cons (.ife (.op (.isi [.tup, .lst]) (.cons (.pk 1) .nil)) (.cons (.ife (.op .ne (.cons (.op (.isi [.tup]) (.cons (.pk 0) .nil)) (.cons (.op (.isi [.tup]) (.cons (.pk 1) .nil)) .nil))) (.cons (.ret (.cst (.bl false))) .nil) .nil) (.cons (.ife (.or (.op .ne (.cons (.op (.isi [.lst]) (.cons (.pk 0) .nil)) (.cons (.op (.isi [.lst]) (.cons (.pk 1) .nil)) .nil))) (.op .ne (.cons (.op .len (.cons (.pk 0) .nil)) (.cons (.op .len (.cons (.pk 1) .nil)) .nil)))) (.cons (.ret (.cst (.bl false))) .nil) .nil) (.cons (.ret (.op .all (.cons (.lc [2, 3] (.tp [2, 3]) .zip (.cons (.var 0) (.cons (.var 1) .nil)) (.cst (.bl true)) (.call 15 (.cons (.pk 2) (.cons (.pk 3) .nil)))) .nil))) .nil))) .nil) (.cons (.ife (.or (.op .isN (.cons (.pk 1) .nil)) (.op .isN (.cons (.pk 0) .nil))) (.cons (.ret (.and (.op .isN (.cons (.pk 1) .nil)) (.op .isN (.cons (.pk 0) .nil)))) .nil) .nil) (.cons (.ife (.op .ne (.cons (.op (.isi [.bool]) (.cons (.pk 0) .nil)) (.cons (.op (.isi [.bool]) (.cons (.pk 1) .nil)) .nil))) (.cons (.ret (.cst (.bl false))) .nil) .nil) (.cons (.ret (.and (.op .eq (.cons (.op (.isi [.str]) (.cons (.pk 0) .nil)) (.cons (.op (.isi [.str]) (.cons (.pk 1) .nil)) .nil))) (.op .eq (.cons (.pk 0) (.cons (.pk 1) .nil))))) .nil))))⟩
def fn__law_gcd : Fn := ⟨2, 2, [false, false], (.cons (.whl (.op .gt (.cons (.pk 1) (.cons (.cst (.int 0)) .nil))) (.cons (.par [0, 1] (.cons (.var 1) (.cons (.op .mod (.cons (.op .int (.cons (.pk 0) .nil)) (.cons (.pk 1) .nil))) .nil))) .nil)) (.cons (.ret (.var 0)) .nil))⟩
def fn__law_turned : Fn := ⟨2, 7, [true, true], (.cons (.asg (.tp [2, 3, 4, 5]) (.op .tup (.cons (.var 0) (.cons (.var 1) (.cons (.cst (.int 1)) (.cons (.cst (.int 0)) .nil)))))) (.cons (.whl (.op .gt (.cons (.pk 3) (.cons (.cst (.int 0)) .nil))) (.cons (.asg (.nm 6) (.op .fdiv (.cons (.pk 2) (.cons (.pk 3) .nil)))) (.cons (.asg (.tp [2, 3, 4, 5]) (.op .tup (.cons (.var 3) (.cons (.op .sub (.cons (.pk 2) (.cons (.op .mul (.cons (.pk 6) (.cons (.pk 3) .nil))) .nil))) (.cons (.var 5) (.cons (.op .sub (.cons (.pk 4) (.cons (.op .mul (.cons (.pk 6) (.cons (.pk 5) .nil))) .nil))) .nil)))))) .nil))) (.cons (.ret (.op .mod (.cons (.op .int (.cons (.pk 4) .nil)) (.cons (.pk 1) .nil)))) .nil)))⟩
def fn__law_split : Fn := ⟨3, 4, [true, true, true], (.cons (.asg (.nm 3) (.op .mod (.cons (.op .int (.cons (.op .mul (.cons (.pk 2) (.cons (.call 17 (.cons (.pk 0) (.cons (.pk 1) .nil))) .nil))) .nil)) (.cons (.pk 1) .nil)))) (.cons (.ret (.op .tup (.cons (.var 3) (.cons (.op .fdiv (.cons (.op .sub (.cons (.pk 2) (.cons (.op .mul (.cons (.pk 0) (.cons (.pk 3) .nil))) .nil))) (.cons (.pk 1) .nil))) .nil)))) .nil))⟩
def fn__law_prime_pair : Fn := ⟨2, 5, [true, true], (.cons (.par [2, 3] (.cons (.op .add (.cons (.cst (.int 1)) (.cons (.call 13 (.cons (.pk 0) (.cons (.pk 1) .nil))) .nil))) (.cons (.op .add (.cons (.cst (.int 1)) (.cons (.call 13 (.cons (.pk 0) (.cons (.pk 1) .nil))) .nil))) .nil))) (.cons (.asg (.nm 4) (.call 16 (.cons (.var 2) (.cons (.var 3) .nil)))) (.cons (.ret (.op .tup (.cons (.op .fdiv (.cons (.pk 2) (.cons (.pk 4) .nil))) (.cons (.op .fdiv (.cons (.pk 3) (.cons (.pk 4) .nil))) .nil)))) .nil)))⟩
def fn__law_word : Fn := ⟨1, 5, [true], (.cons (.asg (.nm 1) (.cst (.str "let"))) (.cons (.tryw 0 2 [0, 1, 2] (.cons (.asg (.nm 3) (.op .lst (.cons (.op (.isx [2]) (.cons (.pk 2) .nil)) (.cons (.op (.isx [1]) (.cons (.pk 2) .nil)) .nil)))) (.cons (.asg (.nm 4) (.op .lst (.cons (.cst (.str "coins")) (.cons (.cst (.str "number")) .nil)))) (.cons (.asg (.nm 1) (.ite (.and (.op .eq (.cons (.mth .count (.pk 3) (.cst (.bl true))) (.cons (.cst (.int 1)) .nil))) (.op (.isx [0, 1, 2]) (.cons (.pk 2) .nil))) (.op .idx (.cons (.pk 4) (.cons (.mth .index (.pk 3) (.cst (.bl true))) .nil))) (.cst (.str "other")))) (.cons (.ife (.op .eq (.cons (.pk 1) (.cons (.cst (.str "coins")) .nil))) (.cons (.asg (.nm 1) (.op .tup (.cons (.var 1) (.cons (.op (.fldx "at") (.cons (.pk 2) .nil)) .nil)))) .nil) .nil) .nil))))) (.cons (.ret (.mv 1)) .nil)))⟩
def fn__law_due : Fn := ⟨3, 7, [true, true, true], (.cons (.asg (.tp [3, 4]) (.call 18 (.cons (.pk 0) (.cons (.pk 1) (.cons (.pk 2) .nil))))) (.cons (.ife (.op .lt (.cons (.pk 4) (.cons (.cst (.int 0)) .nil))) (.cons (.ret (.op .lst (.cons (.cst .non) (.cons (.cst (.int 0)) (.cons (.cst .non) (.cons (.cst .non) (.cons (.op .tup (.cons (.var 3) (.cons (.var 4) .nil))) .nil))))))) .nil) .nil) (.cons (.asg (.nm 5) (.op .fdiv (.cons (.pk 4) (.cons (.pk 0) .nil)))) (.cons (.asg (.nm 6) (.op .lst (.cons (.op .add (.cons (.pk 3) (.cons (.pk 4) .nil))) (.cons (.op .sub (.cons (.op .add (.cons (.op .add (.cons (.pk 3) (.cons (.op .mul (.cons (.pk 5) (.cons (.pk 1) .nil))) .nil))) (.cons (.pk 4) .nil))) (.cons (.op .mul (.cons (.pk 5) (.cons (.pk 0) .nil))) .nil))) .nil)))) (.cons (.ret (.op .lst (.cons (.op .tup (.cons (.var 3) (.cons (.var 4) .nil))) (.cons (.op .add (.cons (.pk 5) (.cons (.cst (.int 1)) .nil))) (.cons (.op .min (.cons (.pk 6) .nil)) (.cons (.op .max (.cons (.pk 6) .nil)) (.cons (.op .tup (.cons (.var 3) (.cons (.var 4) .nil))) .nil))))))) .nil)))))⟩
def fn__law_told : Fn := ⟨3, 4, [true, true, true], (.cons (.asg (.nm 3) (.op .lst (.cons (.call 7 (.cons (.pk 0) (.cons (.pk 1) (.cons (.pk 2) .nil)))) (.cons (.call 8 (.cons (.pk 0) (.cons (.pk 1) (.cons (.pk 2) .nil)))) (.cons (.call 9 (.cons (.pk 0) (.cons (.pk 1) (.cons (.pk 2) .nil)))) .nil))))) (.cons (.ret (.op .add (.cons (.pk 3) (.cons (.op .lst (.cons (.call 10 (.cons (.pk 0) (.cons (.pk 1) (.cons (.pk 2) .nil)))) (.cons (.call 11 (.cons (.pk 0) (.cons (.pk 1) (.cons (.pk 2) .nil)))) .nil))) .nil)))) .nil))⟩
def fn__law_listed : Fn := ⟨3, 5, [true, true, true], (.cons (.asg (.nm 3) (.lc [4] (.nm 4) .rng1 (.cons (.op .max2 (.cons (.cst (.int 0)) (.cons (.op .add (.cons (.op .fdiv (.cons (.pk 2) (.cons (.pk 0) .nil))) (.cons (.cst (.int 1)) .nil))) .nil))) .nil) (.op .eq (.cons (.op .mod (.cons (.op .int (.cons (.op .sub (.cons (.pk 2) (.cons (.op .mul (.cons (.pk 0) (.cons (.pk 4) .nil))) .nil))) .nil)) (.cons (.pk 1) .nil))) (.cons (.cst (.int 0)) .nil))) (.var 4))) (.cons (.ret (.lc [4] (.nm 4) .seq (.cons (.var 3) .nil) (.cst (.bl true)) (.op .tup (.cons (.var 4) (.cons (.op .fdiv (.cons (.op .sub (.cons (.pk 2) (.cons (.op .mul (.cons (.pk 0) (.cons (.pk 4) .nil))) .nil))) (.cons (.pk 1) .nil))) .nil))))) .nil))⟩
def fn__law_numbers : Fn := ⟨3, 7, [true, true, true], (.cons (.par [3, 4] (.cons (.op .sub (.cons (.op .sub (.cons (.op .mul (.cons (.pk 1) (.cons (.pk 2) .nil))) (.cons (.pk 1) .nil))) (.cons (.pk 2) .nil))) (.cons (.op .mul (.cons (.op .pow (.cons (.cst (.int 10)) (.cons (.cst (.int 60)) .nil))) (.cons (.op .pow (.cons (.cst (.int 10)) (.cons (.cst (.int 60)) .nil))) .nil))) .nil))) (.cons (.asg (.nm 5) (.op .add (.cons (.op .mul (.cons (.pk 1) (.cons (.call 13 (.cons (.pk 0) (.cons (.cst (.int 50)) .nil))) .nil))) (.cons (.op .mul (.cons (.pk 2) (.cons (.call 13 (.cons (.pk 0) (.cons (.cst (.int 50)) .nil))) .nil))) .nil)))) (.cons (.asg (.nm 6) (.op .lst (.cons (.op .sub (.cons (.op .add (.cons (.pk 3) (.cons (.call 13 (.cons (.pk 0) (.cons (.cst (.int 5)) .nil))) .nil))) (.cons (.cst (.int 2)) .nil))) (.cons (.var 5) (.cons (.op .sub (.cons (.cst (.int 0)) (.cons (.call 13 (.cons (.pk 0) (.cons (.cst (.int 9)) .nil))) .nil))) (.cons (.op .add (.cons (.op .mul (.cons (.op .mul (.cons (.pk 1) (.cons (.pk 2) .nil))) (.cons (.op .add (.cons (.cst (.int 1)) (.cons (.call 13 (.cons (.pk 0) (.cons (.cst (.int 5)) .nil))) .nil))) .nil))) (.cons (.pk 5) .nil))) .nil)))))) (.cons (.asg (.nm 6) (.op .add (.cons (.pk 6) (.cons (.op .lst (.cons (.call 13 (.cons (.pk 0) (.cons (.pk 4) .nil))) (.cons (.cst (.int 0)) (.cons (.var 1) (.cons (.var 2) (.cons (.var 3) (.cons (.op .sub (.cons (.pk 3) (.cons (.pk 5) .nil))) .nil))))))) .nil)))) (.cons (.ret (.op .add (.cons (.pk 6) (.cons (.op .lst (.cons (.op .sub (.cons (.pk 3) (.cons (.call 13 (.cons (.pk 0) (.cons (.op .add (.cons (.op .mul (.cons (.pk 1) (.cons (.pk 2) .nil))) (.cons (.cst (.int 1)) .nil))) .nil))) .nil))) .nil)) .nil)))) .nil)))))⟩
def fn__law_is_right : Fn := ⟨3, 6, [true, true, true], (.cons (.fr (.nm 3) .seq (.cons (.call 24 (.cons (.pk 0) (.cons (.pk 1) (.cons (.pk 2) .nil)))) .nil) (.cons (.asg (.nm 4) (.call 21 (.cons (.pk 1) (.cons (.pk 2) (.cons (.pk 3) .nil))))) (.cons (.ife (.nt (.call 15 (.cons (.call 22 (.cons (.pk 1) (.cons (.pk 2) (.cons (.pk 3) .nil)))) (.cons (.pk 4) .nil)))) (.cons (.ret (.cst (.bl false))) .nil) .nil) (.cons (.ife (.and (.op .notN (.cons (.op .idx (.cons (.pk 4) (.cons (.cst (.int 0)) .nil))) .nil)) (.op .ne (.cons (.op .add (.cons (.op .mul (.cons (.pk 1) (.cons (.op .idx (.cons (.op .idx (.cons (.pk 4) (.cons (.cst (.int 0)) .nil))) (.cons (.cst (.int 0)) .nil))) .nil))) (.cons (.op .mul (.cons (.pk 2) (.cons (.op .idx (.cons (.op .idx (.cons (.pk 4) (.cons (.cst (.int 0)) .nil))) (.cons (.cst (.int 1)) .nil))) .nil))) .nil))) (.cons (.pk 3) .nil)))) (.cons (.ret (.cst (.bl false))) .nil) .nil) (.cons (.asg (.nm 5) (.call 22 (.cons (.pk 2) (.cons (.pk 1) (.cons (.pk 3) .nil))))) (.cons (.ife (.nt (.call 15 (.cons (.op .lst (.cons (.slC (.pk 5) (.cst (.int 1)) (.cst (.int 4))) (.cons (.op .isN (.cons (.op .idx (.cons (.pk 5) (.cons (.cst (.int 0)) .nil))) .nil)) .nil))) (.cons (.op .lst (.cons (.slC (.pk 4) (.cst (.int 1)) (.cst (.int 4))) (.cons (.op .isN (.cons (.op .idx (.cons (.pk 4) (.cons (.cst (.int 0)) .nil))) .nil)) .nil))) .nil)))) (.cons (.ret (.cst (.bl false))) .nil) .nil) .nil)))))) (.cons (.ret (.cst (.bl true))) .nil))⟩
def fn__law_is_listed_right : Fn := ⟨1, 9, [true], (.cons (.asg (.tp [1, 2]) (.call 19 (.cons (.pk 0) (.cons (.cst (.int 12)) .nil)))) (.cons (.fr (.nm 3) .rng2 (.cons (.op .sub (.cons (.cst (.int 0)) (.cons (.cst (.int 2)) .nil))) (.cons (.op .add (.cons (.op .mul (.cons (.op .mul (.cons (.cst (.int 2)) (.cons (.pk 1) .nil))) (.cons (.pk 2) .nil))) (.cons (.cst (.int 3)) .nil))) .nil)) (.cons (.asg (.nm 4) (.call 23 (.cons (.pk 1) (.cons (.pk 2) (.cons (.pk 3) .nil))))) (.cons (.asg (.nm 5) (.lc [7, 8] (.tp [7, 8]) .seq (.cons (.var 4) .nil) (.cst (.bl true)) (.op .add (.cons (.pk 7) (.cons (.pk 8) .nil))))) (.cons (.asg (.nm 6) (.ite (.op .gt (.cons (.op .len (.cons (.pk 4) .nil)) (.cons (.cst (.int 0)) .nil))) (.op .lst (.cons (.op .idx (.cons (.pk 4) (.cons (.cst (.int 0)) .nil))) (.cons (.op .len (.cons (.pk 4) .nil)) (.cons (.op .min (.cons (.pk 5) .nil)) (.cons (.op .max (.cons (.pk 5) .nil)) .nil))))) (.op .lst (.cons (.cst .non) (.cons (.cst (.int 0)) (.cons (.cst .non) (.cons (.cst .non) .nil))))))) (.cons (.ife (.nt (.call 15 (.cons (.slB (.call 22 (.cons (.pk 1) (.cons (.pk 2) (.cons (.pk 3) .nil)))) (.cst (.int 4))) (.cons (.pk 6) .nil)))) (.cons (.ret (.cst (.bl false))) .nil) .nil) .nil))))) (.cons (.ret (.cst (.bl true))) .nil)))⟩
def fn__law_are_errors_right : Fn := ⟨3, 12, [true, true, true], (.cons (.asg (.nm 3) (.call 14 (.cons (.pk 0) (.cons (.op .lst (.cons (.cst (.int 0)) (.cons (.op .neg (.cons (.cst (.int 3)) .nil)) (.cons (.cst .non) (.cons (.cst (.bl true)) (.cons (.cst (.str "5")) (.cons (.op .tup (.cons (.cst (.int 5)) .nil)) (.cons (.op .add (.cons (.op .mul (.cons (.op .pow (.cons (.cst (.int 10)) (.cons (.cst (.int 50)) .nil))) (.cons (.op .pow (.cons (.cst (.int 10)) (.cons (.cst (.int 50)) .nil))) .nil))) (.cons (.cst (.int 1)) .nil))) (.cons (.op .lst (.cons (.cst (.int 2)) .nil)) (.cons (.op .dnew .nil) .nil)))))))))) .nil)))) (.cons (.asg (.nm 4) (.op .add (.cons (.cst (.int 2)) (.cons (.call 13 (.cons (.pk 0) (.cons (.cst (.int 9)) .nil))) .nil)))) (.cons (.asg (.nm 5) (.op .lst (.cons (.op .tup (.cons (.var 3) (.cons (.var 2) .nil))) (.cons (.op .tup (.cons (.var 1) (.cons (.var 3) .nil))) (.cons (.op .tup (.cons (.var 3) (.cons (.var 3) .nil))) (.cons (.op .tup (.cons (.op .mul (.cons (.pk 1) (.cons (.pk 4) .nil))) (.cons (.op .mul (.cons (.pk 2) (.cons (.pk 4) .nil))) .nil))) (.cons (.op .tup (.cons (.var 4) (.cons (.var 4) .nil))) .nil))))))) (.cons (.asg (.tp [6, 7]) (.call 14 (.cons (.pk 0) (.cons (.pk 5) .nil)))) (.cons (.asg (.nm 8) (.op .mul (.cons (.op .mul (.cons (.op .mul (.cons (.op .mul (.cons (.op .pow (.cons (.cst (.int 10)) (.cons (.cst (.int 60)) .nil))) (.cons (.op .pow (.cons (.cst (.int 10)) (.cons (.cst (.int 60)) .nil))) .nil))) (.cons (.op .pow (.cons (.cst (.int 10)) (.cons (.cst (.int 60)) .nil))) .nil))) (.cons (.op .pow (.cons (.cst (.int 10)) (.cons (.cst (.int 60)) .nil))) .nil))) (.cons (.op .pow (.cons (.cst (.int 10)) (.cons (.cst (.int 60)) .nil))) .nil)))) (.cons (.asg (.nm 9) (.call 14 (.cons (.pk 0) (.cons (.op .lst (.cons (.cst .non) (.cons (.cst (.bl true)) (.cons (.cst (.str "1")) (.cons (.op .tup (.cons (.cst (.int 1)) .nil)) (.cons (.op .lst (.cons (.cst (.int 1)) .nil)) (.cons (.op .dnew .nil) (.cons (.op .add (.cons (.pk 8) (.cons (.cst (.int 1)) .nil))) (.cons (.op .sub (.cons (.op .sub (.cons (.cst (.int 0)) (.cons (.pk 8) .nil))) (.cons (.cst (.int 1)) .nil))) .nil))))))))) .nil)))) (.cons (.fr (.nm 10) .seq (.cons (.op .tup (.cons (.cst (.set [7])) (.cons (.cst (.set [8])) (.cons (.cst (.set [9])) (.cons (.cst (.set [10])) (.cons (.cst (.set [11])) .nil)))))) .nil) (.cons (.asg (.nm 11) (.op .lst (.cons (.lam 20 (.cl 10 [7, 8, 9, 10, 11] (.cons (.pk 6) (.cons (.pk 7) (.cons (.pk 9) .nil))))) (.cons (.lam 20 (.cl 10 [7, 8, 9, 10, 11] (.cons (.pk 1) (.cons (.pk 2) (.cons (.pk 9) .nil))))) .nil)))) (.cons (.ife (.op .ne (.cons (.pk 11) (.cons (.op .lst (.cons (.op .tup (.cons (.cst (.str "coins")) (.cons (.op .neg (.cons (.cst (.int 1)) .nil)) .nil))) (.cons (.cst (.str "number")) .nil))) .nil))) (.cons (.ret (.cst (.bl false))) .nil) .nil) .nil))) (.cons (.asg (.nm 11) (.op .lst (.cons (.lam 20 (.call 8 (.cons (.pk 1) (.cons (.pk 2) (.cons (.pk 8) .nil))))) .nil))) (.cons (.ret (.op .eq (.cons (.op .add (.cons (.pk 11) (.cons (.op .lst (.cons (.lam 20 (.call 7 (.cons (.pk 1) (.cons (.pk 2) (.cons (.op .sub (.cons (.cst (.int 0)) (.cons (.pk 8) .nil))) .nil))))) .nil)) .nil))) (.cons (.op .rep (.cons (.op .lst (.cons (.cst (.str "let")) .nil)) (.cons (.cst (.int 2)) .nil))) .nil)))) .nil)))))))))⟩
def fn_law : Fn := ⟨1, 5, [true], (.cons (.asg (.nm 1) (.call 12 (.cons (.pk 0) .nil))) (.cons (.ife (.nt (.call 15 (.cons (.call 22 (.cons (.cst (.int 3)) (.cons (.cst (.int 5)) (.cons (.cst (.int 31)) .nil)))) (.cons (.op .lst (.cons (.op .tup (.cons (.cst (.int 2)) (.cons (.cst (.int 5)) .nil))) (.cons (.cst (.int 2)) (.cons (.cst (.int 7)) (.cons (.cst (.int 9)) (.cons (.op .tup (.cons (.cst (.int 2)) (.cons (.cst (.int 5)) .nil))) .nil)))))) .nil)))) (.cons (.ret (.cst (.bl false))) .nil) .nil) (.cons (.ife (.nt (.call 15 (.cons (.call 22 (.cons (.cst (.int 1)) (.cons (.cst (.int 1)) (.cons (.cst (.int 4)) .nil)))) (.cons (.op .lst (.cons (.op .tup (.cons (.cst (.int 0)) (.cons (.cst (.int 4)) .nil))) (.cons (.cst (.int 5)) (.cons (.cst (.int 4)) (.cons (.cst (.int 4)) (.cons (.op .tup (.cons (.cst (.int 0)) (.cons (.cst (.int 4)) .nil))) .nil)))))) .nil)))) (.cons (.ret (.cst (.bl false))) .nil) .nil) (.cons (.ife (.nt (.call 26 (.cons (.pk 1) .nil))) (.cons (.ret (.cst (.bl false))) .nil) .nil) (.cons (.fr (.nm 2) .seq (.cons (.op .tup (.cons (.cst (.int 9)) (.cons (.cst (.int 1000)) (.cons (.op .pow (.cons (.cst (.int 10)) (.cons (.cst (.int 30)) .nil))) (.cons (.op .mul (.cons (.op .pow (.cons (.cst (.int 10)) (.cons (.cst (.int 50)) .nil))) (.cons (.op .pow (.cons (.cst (.int 10)) (.cons (.cst (.int 50)) .nil))) .nil))) .nil))))) .nil) (.cons (.asg (.tp [3, 4]) (.call 19 (.cons (.pk 1) (.cons (.pk 2) .nil)))) (.cons (.ife (.op .eq (.cons (.call 13 (.cons (.pk 1) (.cons (.cst (.int 8)) .nil))) (.cons (.cst (.int 0)) .nil))) (.cons (.asg (.nm 3) (.cst (.int 1))) .nil) .nil) (.cons (.ife (.or (.nt (.call 25 (.cons (.pk 1) (.cons (.pk 3) (.cons (.pk 4) .nil))))) (.nt (.call 27 (.cons (.pk 1) (.cons (.pk 3) (.cons (.pk 4) .nil)))))) (.cons (.ret (.cst (.bl false))) .nil) .nil) .nil)))) (.cons (.ret (.cst (.bl true))) .nil))))))⟩
def tb : List Fn := [fn_is_integer, fn_common, fn_BadCoins___init__, fn_check_two, fn_check_number, fn_inverse_of, fn_first_count, fn_two_pay, fn_two_ways, fn_two_fewest, fn_two_most, fn_two_signed, fn__law_hand, fn__law_draw, fn__law_some, fn__law_is, fn__law_gcd, fn__law_turned, fn__law_split, fn__law_prime_pair, fn__law_word, fn__law_due, fn__law_told, fn__law_listed, fn__law_numbers, fn__law_is_right, fn__law_is_listed_right, fn__law_are_errors_right, fn_law]
/-! ### the text -/
def top (i : Nat) : Stmt := PySem.Challenge.pw_paidornot_k58_whole_two_coins_ways.main.body.getD i (.Pass ⟨0, 0, 0, 0⟩)
def inCls (s : Stmt) (j : Nat) : Stmt := match s with | .ClassDef (body := b) .. => b.getD j (.Pass ⟨0, 0, 0, 0⟩) | _ => .Pass ⟨0, 0, 0, 0⟩
abbrev t_is_integer : Stmt := top 1
abbrev t_common : Stmt := top 2
abbrev t_check_two : Stmt := top 9
abbrev t_check_number : Stmt := top 10
abbrev t_inverse_of : Stmt := top 11
abbrev t_first_count : Stmt := top 12
abbrev t_two_pay : Stmt := top 13
abbrev t_two_ways : Stmt := top 14
abbrev t_two_fewest : Stmt := top 15
abbrev t_two_most : Stmt := top 16
abbrev t_two_signed : Stmt := top 17
abbrev t__law_hand : Stmt := top 19
abbrev t__law_draw : Stmt := top 20
abbrev t__law_some : Stmt := top 21
abbrev t__law_is : Stmt := top 22
abbrev t__law_gcd : Stmt := top 23
abbrev t__law_turned : Stmt := top 24
abbrev t__law_split : Stmt := top 25
abbrev t__law_prime_pair : Stmt := top 26
abbrev t__law_word : Stmt := top 27
abbrev t__law_due : Stmt := top 28
abbrev t__law_told : Stmt := top 29
abbrev t__law_listed : Stmt := top 30
abbrev t__law_numbers : Stmt := top 31
abbrev t__law_is_right : Stmt := top 32
abbrev t__law_is_listed_right : Stmt := top 33
abbrev t__law_are_errors_right : Stmt := top 34
abbrev t_law : Stmt := top 35
abbrev t_BadCoins : Stmt := inCls (top 6) 0
theorem sc_is_integer : FnScope ["thing"] ["thing"] (defScope t_is_integer) := ⟨rfl, rfl, rfl, by decide +kernel, rfl, by decide +kernel, by decide +kernel⟩
theorem sc_common : FnScope ["one", "other"] ["one", "other"] (defScope t_common) := ⟨rfl, rfl, rfl, by decide +kernel, rfl, by decide +kernel, by decide +kernel⟩
theorem sc_check_two : FnScope ["one", "other", "coin"] ["one", "other"] (defScope t_check_two) := ⟨rfl, rfl, rfl, by decide +kernel, rfl, by decide +kernel, by decide +kernel⟩
theorem sc_check_number : FnScope ["number"] ["number"] (defScope t_check_number) := ⟨rfl, rfl, rfl, by decide +kernel, rfl, by decide +kernel, by decide +kernel⟩
theorem sc_inverse_of : FnScope ["one", "modulus", "x", "more_x", "here", "other", "factor"] ["one", "modulus"] (defScope t_inverse_of) := ⟨rfl, rfl, rfl, by decide +kernel, rfl, by decide +kernel, by decide +kernel⟩
theorem sc_first_count : FnScope ["one", "other", "number"] ["one", "other", "number"] (defScope t_first_count) := ⟨rfl, rfl, rfl, by decide +kernel, rfl, by decide +kernel, by decide +kernel⟩
theorem sc_two_pay : FnScope ["one", "other", "number", "often", "rest"] ["one", "other", "number"] (defScope t_two_pay) := ⟨rfl, rfl, rfl, by decide +kernel, rfl, by decide +kernel, by decide +kernel⟩
theorem sc_two_ways : FnScope ["one", "other", "number", "rest"] ["one", "other", "number"] (defScope t_two_ways) := ⟨rfl, rfl, rfl, by decide +kernel, rfl, by decide +kernel, by decide +kernel⟩
theorem sc_two_fewest : FnScope ["one", "other", "number", "low", "high", "often", "rest"] ["one", "other", "number"] (defScope t_two_fewest) := ⟨rfl, rfl, rfl, by decide +kernel, rfl, by decide +kernel, by decide +kernel⟩
theorem sc_two_most : FnScope ["one", "other", "number", "low", "high", "often", "rest"] ["one", "other", "number"] (defScope t_two_most) := ⟨rfl, rfl, rfl, by decide +kernel, rfl, by decide +kernel, by decide +kernel⟩
theorem sc_two_signed : FnScope ["one", "other", "number", "often"] ["one", "other", "number"] (defScope t_two_signed) := ⟨rfl, rfl, rfl, by decide +kernel, rfl, by decide +kernel, by decide +kernel⟩
theorem sc__law_hand : FnScope ["script", "cells", "cell"] ["script"] (defScope t__law_hand) := ⟨rfl, rfl, rfl, by decide +kernel, rfl, by decide +kernel, by decide +kernel⟩
theorem sc__law_draw : FnScope ["hand", "many", "cell", "digit", "number"] ["hand", "many"] (defScope t__law_draw) := ⟨rfl, rfl, rfl, by decide +kernel, rfl, by decide +kernel, by decide +kernel⟩
theorem sc__law_some : FnScope ["hand", "things"] ["hand", "things"] (defScope t__law_some) := ⟨rfl, rfl, rfl, by decide +kernel, rfl, by decide +kernel, by decide +kernel⟩
theorem sc__law_is : FnScope ["got", "due", "one", "other"] ["got", "due"] (defScope t__law_is) := ⟨rfl, rfl, rfl, by decide +kernel, rfl, by decide +kernel, by decide +kernel⟩
theorem sc__law_gcd : FnScope ["a", "b"] ["a", "b"] (defScope t__law_gcd) := ⟨rfl, rfl, rfl, by decide +kernel, rfl, by decide +kernel, by decide +kernel⟩
theorem sc__law_turned : FnScope ["one", "other", "a", "b", "x", "y", "by"] ["one", "other"] (defScope t__law_turned) := ⟨rfl, rfl, rfl, by decide +kernel, rfl, by decide +kernel, by decide +kernel⟩
theorem sc__law_split : FnScope ["one", "other", "number", "x"] ["one", "other", "number"] (defScope t__law_split) := ⟨rfl, rfl, rfl, by decide +kernel, rfl, by decide +kernel, by decide +kernel⟩
theorem sc__law_prime_pair : FnScope ["hand", "most", "one", "other", "by"] ["hand", "most"] (defScope t__law_prime_pair) := ⟨rfl, rfl, rfl, by decide +kernel, rfl, by decide +kernel, by decide +kernel⟩
theorem sc__law_word : FnScope ["call", "found", "error", "flags", "words"] ["call"] (defScope t__law_word) := ⟨rfl, rfl, rfl, by decide +kernel, rfl, by decide +kernel, by decide +kernel⟩
theorem sc__law_due : FnScope ["one", "other", "number", "x", "y", "more", "ends"] ["one", "other", "number"] (defScope t__law_due) := ⟨rfl, rfl, rfl, by decide +kernel, rfl, by decide +kernel, by decide +kernel⟩
theorem sc__law_told : FnScope ["one", "other", "number", "found"] ["one", "other", "number"] (defScope t__law_told) := ⟨rfl, rfl, rfl, by decide +kernel, rfl, by decide +kernel, by decide +kernel⟩
theorem sc__law_listed : FnScope ["one", "other", "number", "some", "x"] ["one", "other", "number"] (defScope t__law_listed) := ⟨rfl, rfl, rfl, by decide +kernel, rfl, by decide +kernel, by decide +kernel⟩
theorem sc__law_numbers : FnScope ["hand", "one", "other", "edge", "top", "made", "some"] ["hand", "one", "other"] (defScope t__law_numbers) := ⟨rfl, rfl, rfl, by decide +kernel, rfl, by decide +kernel, by decide +kernel⟩
theorem sc__law_is_right : FnScope ["hand", "one", "other", "number", "due", "back"] ["hand", "one", "other"] (defScope t__law_is_right) := ⟨rfl, rfl, rfl, by decide +kernel, rfl, by decide +kernel, by decide +kernel⟩
theorem sc__law_is_listed_right : FnScope ["hand", "one", "other", "number", "rows", "sums", "due", "x", "y"] ["hand"] (defScope t__law_is_listed_right) := ⟨rfl, rfl, rfl, by decide +kernel, rfl, by decide +kernel, by decide +kernel⟩
theorem sc__law_are_errors_right : FnScope ["hand", "one", "other", "odd", "by", "pairs", "a", "b", "great", "number", "call", "words"] ["hand", "one", "other"] (defScope t__law_are_errors_right) := ⟨rfl, rfl, rfl, by decide +kernel, rfl, by decide +kernel, by decide +kernel⟩
theorem sc_law : FnScope ["script", "hand", "most", "one", "other"] ["script"] (defScope t_law) := ⟨rfl, rfl, rfl, by decide +kernel, rfl, by decide +kernel, by decide +kernel⟩
theorem sc_BadCoins : FnScope ["self", "at"] ["self", "at"] (defScope t_BadCoins) := ⟨rfl, rfl, rfl, by decide +kernel, rfl, by decide +kernel, by decide +kernel⟩
/-! ### what is leant on -/
def xs : List Str := ["CoinError", "BadNumber", "BadCoins"]
abbrev tix__law_are_errors_right : Nat := 0
def tf : List He.Defn := [("_law_are_errors_right", none)]
def tT (K : PySem.W.Frag) : List (Addr × Str) := [((He.cT K ("_law_are_errors_right", none)).2, "_law_are_errors_right.<locals>.<lambda>")]
def fvs : List (Nat × (Str × Option Str)) := [(7, ("two_pay", none)), (8, ("two_ways", none)), (9, ("two_fewest", none)), (10, ("two_most", none)), (11, ("two_signed", none))]
abbrev Yw (K : PySem.W.Frag) : Wd := { K := K, ca := caOf K xs, T := tT K, ok := fun _ => False, th := fun _ => True, ex := fun _ _ _ => False, xk := fun c => c < xs.length, fv := fvOf K fvs }
variable {WF : Nat}
structure Fs (K : PySem.W.Frag) (mg : Str → Option Value) : Prop where
  d_is_integer : FunD K "is_integer" "is_integer" (defArgs t_is_integer) (defBody t_is_integer) (defScope t_is_integer) [] [] (He.fAd K ("is_integer", none)) (fdOf K ("is_integer", none))
  d_common : FunD K "common" "common" (defArgs t_common) (defBody t_common) (defScope t_common) [] [] (He.fAd K ("common", none)) (fdOf K ("common", none))
  d_check_two : FunD K "check_two" "check_two" (defArgs t_check_two) (defBody t_check_two) (defScope t_check_two) [] [] (He.fAd K ("check_two", none)) (fdOf K ("check_two", none))
  d_check_number : FunD K "check_number" "check_number" (defArgs t_check_number) (defBody t_check_number) (defScope t_check_number) [] [] (He.fAd K ("check_number", none)) (fdOf K ("check_number", none))
  d_inverse_of : FunD K "inverse_of" "inverse_of" (defArgs t_inverse_of) (defBody t_inverse_of) (defScope t_inverse_of) [] [] (He.fAd K ("inverse_of", none)) (fdOf K ("inverse_of", none))
  d_first_count : FunD K "first_count" "first_count" (defArgs t_first_count) (defBody t_first_count) (defScope t_first_count) [] [] (He.fAd K ("first_count", none)) (fdOf K ("first_count", none))
  d_two_pay : FunD K "two_pay" "two_pay" (defArgs t_two_pay) (defBody t_two_pay) (defScope t_two_pay) [] [] (He.fAd K ("two_pay", none)) (fdOf K ("two_pay", none))
  d_two_ways : FunD K "two_ways" "two_ways" (defArgs t_two_ways) (defBody t_two_ways) (defScope t_two_ways) [] [] (He.fAd K ("two_ways", none)) (fdOf K ("two_ways", none))
  d_two_fewest : FunD K "two_fewest" "two_fewest" (defArgs t_two_fewest) (defBody t_two_fewest) (defScope t_two_fewest) [] [] (He.fAd K ("two_fewest", none)) (fdOf K ("two_fewest", none))
  d_two_most : FunD K "two_most" "two_most" (defArgs t_two_most) (defBody t_two_most) (defScope t_two_most) [] [] (He.fAd K ("two_most", none)) (fdOf K ("two_most", none))
  d_two_signed : FunD K "two_signed" "two_signed" (defArgs t_two_signed) (defBody t_two_signed) (defScope t_two_signed) [] [] (He.fAd K ("two_signed", none)) (fdOf K ("two_signed", none))
  d__law_hand : FunD K "_law_hand" "_law_hand" (defArgs t__law_hand) (defBody t__law_hand) (defScope t__law_hand) [] [] (He.fAd K ("_law_hand", none)) (fdOf K ("_law_hand", none))
  d__law_draw : FunD K "_law_draw" "_law_draw" (defArgs t__law_draw) (defBody t__law_draw) (defScope t__law_draw) [] [] (He.fAd K ("_law_draw", none)) (fdOf K ("_law_draw", none))
  d__law_some : FunD K "_law_some" "_law_some" (defArgs t__law_some) (defBody t__law_some) (defScope t__law_some) [] [] (He.fAd K ("_law_some", none)) (fdOf K ("_law_some", none))
  d__law_is : FunD K "_law_is" "_law_is" (defArgs t__law_is) (defBody t__law_is) (defScope t__law_is) [] [] (He.fAd K ("_law_is", none)) (fdOf K ("_law_is", none))
  d__law_gcd : FunD K "_law_gcd" "_law_gcd" (defArgs t__law_gcd) (defBody t__law_gcd) (defScope t__law_gcd) [] [] (He.fAd K ("_law_gcd", none)) (fdOf K ("_law_gcd", none))
  d__law_turned : FunD K "_law_turned" "_law_turned" (defArgs t__law_turned) (defBody t__law_turned) (defScope t__law_turned) [] [] (He.fAd K ("_law_turned", none)) (fdOf K ("_law_turned", none))
  d__law_split : FunD K "_law_split" "_law_split" (defArgs t__law_split) (defBody t__law_split) (defScope t__law_split) [] [] (He.fAd K ("_law_split", none)) (fdOf K ("_law_split", none))
  d__law_prime_pair : FunD K "_law_prime_pair" "_law_prime_pair" (defArgs t__law_prime_pair) (defBody t__law_prime_pair) (defScope t__law_prime_pair) [] [] (He.fAd K ("_law_prime_pair", none)) (fdOf K ("_law_prime_pair", none))
  d__law_word : FunD K "_law_word" "_law_word" (defArgs t__law_word) (defBody t__law_word) (defScope t__law_word) [] [] (He.fAd K ("_law_word", none)) (fdOf K ("_law_word", none))
  d__law_due : FunD K "_law_due" "_law_due" (defArgs t__law_due) (defBody t__law_due) (defScope t__law_due) [] [] (He.fAd K ("_law_due", none)) (fdOf K ("_law_due", none))
  d__law_told : FunD K "_law_told" "_law_told" (defArgs t__law_told) (defBody t__law_told) (defScope t__law_told) [] [] (He.fAd K ("_law_told", none)) (fdOf K ("_law_told", none))
  d__law_listed : FunD K "_law_listed" "_law_listed" (defArgs t__law_listed) (defBody t__law_listed) (defScope t__law_listed) [] [] (He.fAd K ("_law_listed", none)) (fdOf K ("_law_listed", none))
  d__law_numbers : FunD K "_law_numbers" "_law_numbers" (defArgs t__law_numbers) (defBody t__law_numbers) (defScope t__law_numbers) [] [] (He.fAd K ("_law_numbers", none)) (fdOf K ("_law_numbers", none))
  d__law_is_right : FunD K "_law_is_right" "_law_is_right" (defArgs t__law_is_right) (defBody t__law_is_right) (defScope t__law_is_right) [] [] (He.fAd K ("_law_is_right", none)) (fdOf K ("_law_is_right", none))
  d__law_is_listed_right : FunD K "_law_is_listed_right" "_law_is_listed_right" (defArgs t__law_is_listed_right) (defBody t__law_is_listed_right) (defScope t__law_is_listed_right) [] [] (He.fAd K ("_law_is_listed_right", none)) (fdOf K ("_law_is_listed_right", none))
  d__law_are_errors_right : FunD K "_law_are_errors_right" "_law_are_errors_right" (defArgs t__law_are_errors_right) (defBody t__law_are_errors_right) (defScope t__law_are_errors_right) [] [] (He.fAd K ("_law_are_errors_right", none)) (fdOf K ("_law_are_errors_right", none))
  d_law : FunD K "law" "law" (defArgs t_law) (defBody t_law) (defScope t_law) [] [] (He.fAd K ("law", none)) (fdOf K ("law", none))
  g_is_integer : DefOk K mg "is_integer" ("is_integer", none) ["thing"]
  g_common : DefOk K mg "common" ("common", none) ["one", "other"]
  g_check_two : DefOk K mg "check_two" ("check_two", none) ["one", "other"]
  g_check_number : DefOk K mg "check_number" ("check_number", none) ["number"]
  g_inverse_of : DefOk K mg "inverse_of" ("inverse_of", none) ["one", "modulus"]
  g_first_count : DefOk K mg "first_count" ("first_count", none) ["one", "other", "number"]
  g_two_pay : DefOk K mg "two_pay" ("two_pay", none) ["one", "other", "number"]
  g_two_ways : DefOk K mg "two_ways" ("two_ways", none) ["one", "other", "number"]
  g_two_fewest : DefOk K mg "two_fewest" ("two_fewest", none) ["one", "other", "number"]
  g_two_most : DefOk K mg "two_most" ("two_most", none) ["one", "other", "number"]
  g_two_signed : DefOk K mg "two_signed" ("two_signed", none) ["one", "other", "number"]
  g__law_hand : DefOk K mg "_law_hand" ("_law_hand", none) ["script"]
  g__law_draw : DefOk K mg "_law_draw" ("_law_draw", none) ["hand", "many"]
  g__law_some : DefOk K mg "_law_some" ("_law_some", none) ["hand", "things"]
  g__law_is : DefOk K mg "_law_is" ("_law_is", none) ["got", "due"]
  g__law_gcd : DefOk K mg "_law_gcd" ("_law_gcd", none) ["a", "b"]
  g__law_turned : DefOk K mg "_law_turned" ("_law_turned", none) ["one", "other"]
  g__law_split : DefOk K mg "_law_split" ("_law_split", none) ["one", "other", "number"]
  g__law_prime_pair : DefOk K mg "_law_prime_pair" ("_law_prime_pair", none) ["hand", "most"]
  g__law_word : DefOk K mg "_law_word" ("_law_word", none) ["call"]
  g__law_due : DefOk K mg "_law_due" ("_law_due", none) ["one", "other", "number"]
  g__law_told : DefOk K mg "_law_told" ("_law_told", none) ["one", "other", "number"]
  g__law_listed : DefOk K mg "_law_listed" ("_law_listed", none) ["one", "other", "number"]
  g__law_numbers : DefOk K mg "_law_numbers" ("_law_numbers", none) ["hand", "one", "other"]
  g__law_is_right : DefOk K mg "_law_is_right" ("_law_is_right", none) ["hand", "one", "other"]
  g__law_is_listed_right : DefOk K mg "_law_is_listed_right" ("_law_is_listed_right", none) ["hand"]
  g__law_are_errors_right : DefOk K mg "_law_are_errors_right" ("_law_are_errors_right", none) ["hand", "one", "other"]
  g_law : DefOk K mg "law" ("law", none) ["script"]
  d_BadCoins : FunD K "__init__" "BadCoins.__init__" (defArgs t_BadCoins) (defBody t_BadCoins) (defScope t_BadCoins) [] [] (He.fAd K ("BadCoins", some "__init__")) (fdOf K ("BadCoins", some "__init__"))
  c_CoinError : mg "CoinError" = some (.ref (He.ga K "CoinError"))
  c_BadNumber : mg "BadNumber" = some (.ref (He.ga K "BadNumber"))
  c_BadCoins : mg "BadCoins" = some (.ref (He.ga K "BadCoins"))
  v_isinstance : mg "isinstance" = none
  v_int : mg "int" = none
  v_bool : mg "bool" = none
  v_abs : mg "abs" = none
  v_min : mg "min" = none
  v_max : mg "max" = none
  v_len : mg "len" = none
  v_tuple : mg "tuple" = none
  v_list : mg "list" = none
  v_zip : mg "zip" = none
  v_all : mg "all" = none
  v_str : mg "str" = none
  v_ValueError : mg "ValueError" = none
  v_range : mg "range" = none
  i_MOST_SIZE : ∃ t, mg "MOST_SIZE" = some (.int 10000000000000000000000000000000000000000000000000000000000000000000000000000000000000000000000000000 t)
  xc : XcC (Yw K) K
  x_BadCoins : isB K xs (.ref (He.ga K "BadCoins"), [2]) = true
  x_BadNumber : isB K xs (.ref (He.ga K "BadNumber"), [1]) = true
  x_ValueError : isB K xs (.type "ValueError", [0, 1, 2]) = true
  m_CoinError : exmB K xs (He.ga K "CoinError", [0, 1, 2]) = true
  n_at : noatB K xs "at" = true
  e_BadNumber : (He.Fa.exc "BadNumber").ok K = true
  o_BadCoins : oexB K (He.ga K "BadCoins") = true ∧ PySem.W.findIn K (.ref (He.ga K "BadCoins")) "__init__" = some (some (.ref (He.fAd K ("BadCoins", some "__init__")))) ∧ PySem.W.typeIn K (.ref (He.fAd K ("BadCoins", some "__init__"))) = some (.type "function") ∧ PySem.W.findIn K (.ref (He.ga K "BadCoins")) "at" = some none
  nd : ((tT K).map (·.1)).Nodup
theorem exc0_BadNumber {X : Cx} (F : Fs X.K X.mg) : Exc0 X (Yw X.K) "BadNumber" 1 := by
  obtain ⟨h1, h2, h3, h4⟩ := He.exc_ok F.e_BadNumber
  exact ⟨F.c_BadNumber, h1, h2, h3, h4, show _ < xs.length by decide⟩
theorem exc1_BadCoins {X : Cx} (F : Fs X.K X.mg) : Exc1 X (Yw X.K) "BadCoins" 2 "at" 1 (He.fAd X.K ("BadCoins", some "__init__")) (fdOf X.K ("BadCoins", some "__init__")) ["self", "at"] := by
  obtain ⟨h1, h2, h3, h4⟩ := F.o_BadCoins
  exact ⟨F.c_BadCoins, oexB_ok h1, h2, h3, init_ok F.d_BadCoins sc_BadCoins (oexB_ok h1) h4 (.inl rfl) (.inl rfl), F.d_BadCoins.bindsN (fun _ _ _ _ _ _ us hl => match us, hl with | [_, _], _ => rfl), show _ < xs.length by decide⟩
/-! ### the defs that try -/
theorem gives__law_word (X : Cx) (F : Fs X.K X.mg) (hr0 : Room 3 X.A) (n : Nat) (g : Addr) (cdg : Value) (q : Str) : LamX.GivesTo X ["call", "found", "error", "flags", "words"] "_law_word" (defScope t__law_word) g cdg (defBody t__law_word) "call" q (TTw (Yw X.K) (callD tb WF (n + 1) 20)) := by
  have sc := sc__law_word
  have hu : X.A.units + 3 + 69 < cLine := by have := hr0.un; omega
  rw [callD_succ (fn := fn__law_word) rfl]
  exact word_gives1 (X := X) (Y := Yw X.K) (U := ⟨WF, callD tb WF n, mdOf tb⟩) (cv := .str "let") (hx := fun _ _ _ h => h) (hth := fun _ => trivial) rfl (by decide) sc.nd rfl rfl rfl F.c_CoinError (by decide) (by decide) rfl rfl (fun _ _ => pe_str) (fun _ => .str "let") (fun _ _ => rfl) (fun c hc => exmB_ok F.m_CoinError hc) (fun s H a oe cls d pn hz hf hcl => (ss_cons (st_asg (s_lst (a_cons (x_e (s_isx (Y := Yw X.K) (cv := .ref (He.ga X.K "BadCoins")) F.xc hz hf F.v_isinstance (fun _ r => r) (fun c hc => isB_ok F.x_BadCoins hc) (pe_glob rfl F.c_BadCoins rfl) x_pk)) (a_cons (x_e (s_isx (Y := Yw X.K) (cv := .ref (He.ga X.K "BadNumber")) F.xc hz hf F.v_isinstance (fun _ r => r) (fun c hc => isB_ok F.x_BadNumber hc) (pe_glob rfl F.c_BadNumber rfl) x_pk)) a_nil))) (g_nm sc.nd nmi)) (ss_cons (st_asg (s_lst (a_cons (x_e s_str) (a_cons (x_e s_str) a_nil))) (g_nm sc.nd nmi)) (ss_cons (st_asg (s_ite (t_pw (w_and (c_t (k_eq rfl (u64 hu)) (x_e (s_count rfl (u65 hu) x_pk (x_e s_bl))) (x_e s_int)) (w_and1 (t_of (s_isx (Y := Yw X.K) (cv := .ty "ValueError") F.xc hz hf F.v_isinstance (fun _ r => r) (fun c hc => isB_ok F.x_ValueError hc) (pe_bltn rfl F.v_ValueError (by decide +kernel) rfl) x_pk))))) (s_idx rfl x_pk (x_e (s_index rfl (u65 hu) x_pk (x_e s_bl)))) s_str) (g_nm sc.nd nmi)) (ss_cons (st_if (c_t (k_eq rfl (u64 hu)) x_pk (x_e s_str)) (ss_cons (st_asg (s_tup (a_cons (x_e s_var) (a_cons (x_e (s_fldx (Y := Yw X.K) hcl F.xc (fun c hc => noatB_ok F.n_at hc) hz hf x_pk)) a_nil))) (g_nm sc.nd nmi)) ss_nil) ss_nil) ss_nil))))) (fun s H => (ss_cons (st_ret s_mv) ss_nil))
/-! ### each def keeps its promise -/
structure All (P : Program) (w : World) (K : PySem.W.Frag) (mg : Str → Option Value) (base : Heap) (WF n : Nat) : Prop where
  f_is_integer : FnOk P w K mg base (L2.CX P w) (3 * n + 1) (He.fAd K ("is_integer", none)) (fdOf K ("is_integer", none)) ["thing"] (spF (Yw K) (callD tb WF n 0))
  f_common : FnOk P w K mg base (L2.CX P w) (3 * n + 1) (He.fAd K ("common", none)) (fdOf K ("common", none)) ["one", "other"] (spF (Yw K) (callD tb WF n 1))
  f_check_two : FnOk P w K mg base (L2.CX P w) (3 * n + 1) (He.fAd K ("check_two", none)) (fdOf K ("check_two", none)) ["one", "other"] (spF (Yw K) (callD tb WF n 3))
  f_check_number : FnOk P w K mg base (L2.CX P w) (3 * n + 1) (He.fAd K ("check_number", none)) (fdOf K ("check_number", none)) ["number"] (spF (Yw K) (callD tb WF n 4))
  f_inverse_of : FnOk P w K mg base (L2.CX P w) (3 * n + 1) (He.fAd K ("inverse_of", none)) (fdOf K ("inverse_of", none)) ["one", "modulus"] (spF (Yw K) (callD tb WF n 5))
  f_first_count : FnOk P w K mg base (L2.CX P w) (3 * n + 1) (He.fAd K ("first_count", none)) (fdOf K ("first_count", none)) ["one", "other", "number"] (spF (Yw K) (callD tb WF n 6))
  f_two_pay : FnOk P w K mg base (L2.CX P w) (3 * n + 1) (He.fAd K ("two_pay", none)) (fdOf K ("two_pay", none)) ["one", "other", "number"] (spF (Yw K) (callD tb WF n 7))
  f_two_ways : FnOk P w K mg base (L2.CX P w) (3 * n + 1) (He.fAd K ("two_ways", none)) (fdOf K ("two_ways", none)) ["one", "other", "number"] (spF (Yw K) (callD tb WF n 8))
  f_two_fewest : FnOk P w K mg base (L2.CX P w) (3 * n + 1) (He.fAd K ("two_fewest", none)) (fdOf K ("two_fewest", none)) ["one", "other", "number"] (spF (Yw K) (callD tb WF n 9))
  f_two_most : FnOk P w K mg base (L2.CX P w) (3 * n + 1) (He.fAd K ("two_most", none)) (fdOf K ("two_most", none)) ["one", "other", "number"] (spF (Yw K) (callD tb WF n 10))
  f_two_signed : FnOk P w K mg base (L2.CX P w) (3 * n + 1) (He.fAd K ("two_signed", none)) (fdOf K ("two_signed", none)) ["one", "other", "number"] (spF (Yw K) (callD tb WF n 11))
  f__law_hand : FnOk P w K mg base (L2.CX P w) (3 * n + 1) (He.fAd K ("_law_hand", none)) (fdOf K ("_law_hand", none)) ["script"] (spF (Yw K) (callD tb WF n 12))
  f__law_draw : FnOk P w K mg base (L2.CX P w) (3 * n + 1) (He.fAd K ("_law_draw", none)) (fdOf K ("_law_draw", none)) ["hand", "many"] (spF (Yw K) (callD tb WF n 13))
  f__law_some : FnOk P w K mg base (L2.CX P w) (3 * n + 1) (He.fAd K ("_law_some", none)) (fdOf K ("_law_some", none)) ["hand", "things"] (spF (Yw K) (callD tb WF n 14))
  f__law_is : FnOk P w K mg base (L2.CX P w) (3 * n + 1) (He.fAd K ("_law_is", none)) (fdOf K ("_law_is", none)) ["got", "due"] (spF (Yw K) (callD tb WF n 15))
  f__law_gcd : FnOk P w K mg base (L2.CX P w) (3 * n + 1) (He.fAd K ("_law_gcd", none)) (fdOf K ("_law_gcd", none)) ["a", "b"] (spF (Yw K) (callD tb WF n 16))
  f__law_turned : FnOk P w K mg base (L2.CX P w) (3 * n + 1) (He.fAd K ("_law_turned", none)) (fdOf K ("_law_turned", none)) ["one", "other"] (spF (Yw K) (callD tb WF n 17))
  f__law_split : FnOk P w K mg base (L2.CX P w) (3 * n + 1) (He.fAd K ("_law_split", none)) (fdOf K ("_law_split", none)) ["one", "other", "number"] (spF (Yw K) (callD tb WF n 18))
  f__law_prime_pair : FnOk P w K mg base (L2.CX P w) (3 * n + 1) (He.fAd K ("_law_prime_pair", none)) (fdOf K ("_law_prime_pair", none)) ["hand", "most"] (spF (Yw K) (callD tb WF n 19))
  f__law_due : FnOk P w K mg base (L2.CX P w) (3 * n + 1) (He.fAd K ("_law_due", none)) (fdOf K ("_law_due", none)) ["one", "other", "number"] (spF (Yw K) (callD tb WF n 21))
  f__law_told : FnOk P w K mg base (L2.CX P w) (3 * n + 1) (He.fAd K ("_law_told", none)) (fdOf K ("_law_told", none)) ["one", "other", "number"] (spF (Yw K) (callD tb WF n 22))
  f__law_listed : FnOk P w K mg base (L2.CX P w) (3 * n + 1) (He.fAd K ("_law_listed", none)) (fdOf K ("_law_listed", none)) ["one", "other", "number"] (spF (Yw K) (callD tb WF n 23))
  f__law_numbers : FnOk P w K mg base (L2.CX P w) (3 * n + 1) (He.fAd K ("_law_numbers", none)) (fdOf K ("_law_numbers", none)) ["hand", "one", "other"] (spF (Yw K) (callD tb WF n 24))
  f__law_is_right : FnOk P w K mg base (L2.CX P w) (3 * n + 1) (He.fAd K ("_law_is_right", none)) (fdOf K ("_law_is_right", none)) ["hand", "one", "other"] (spF (Yw K) (callD tb WF n 25))
  f__law_is_listed_right : FnOk P w K mg base (L2.CX P w) (3 * n + 1) (He.fAd K ("_law_is_listed_right", none)) (fdOf K ("_law_is_listed_right", none)) ["hand"] (spF (Yw K) (callD tb WF n 26))
  f__law_are_errors_right : FnOk P w K mg base (L2.CX P w) (3 * n + 1) (He.fAd K ("_law_are_errors_right", none)) (fdOf K ("_law_are_errors_right", none)) ["hand", "one", "other"] (spF (Yw K) (callD tb WF n 27))
  f_law : FnOk P w K mg base (L2.CX P w) (3 * n + 1) (He.fAd K ("law", none)) (fdOf K ("law", none)) ["script"] (spF (Yw K) (callD tb WF n 28))
section
variable {P : Program} {w : World} {K : PySem.W.Frag} {mg : Str → Option Value} {base : Heap} {n : Nat}
theorem can (F : Fs K mg) (A : All P w K mg base WF n) : ∀ f a, fvOf K fvs f a → ∃ fd ps, FnOk P w K mg base (L2.CX P w) (3 * n + 1) a fd ps (spF (Yw K) (callD tb WF n f)) ∧ PySem.W.keepIn K (.ref a) = true ∧ Binds K fd ps [] := fun f a h => by
  rcases h with ⟨rfl, rfl⟩ | ⟨rfl, rfl⟩ | ⟨rfl, rfl⟩ | ⟨rfl, rfl⟩ | ⟨rfl, rfl⟩ | h
  · exact ⟨_, _, A.f_two_pay, F.g_two_pay.hk, F.g_two_pay.hb⟩
  · exact ⟨_, _, A.f_two_ways, F.g_two_ways.hk, F.g_two_ways.hb⟩
  · exact ⟨_, _, A.f_two_fewest, F.g_two_fewest.hk, F.g_two_fewest.hb⟩
  · exact ⟨_, _, A.f_two_most, F.g_two_most.hk, F.g_two_most.hb⟩
  · exact ⟨_, _, A.f_two_signed, F.g_two_signed.hk, F.g_two_signed.hb⟩
  · exact h.elim
theorem all0 (F : Fs K mg) : All P w K mg base WF 0 := ⟨bad_ok F.d_is_integer sc_is_integer, bad_ok F.d_common sc_common, bad_ok F.d_check_two sc_check_two, bad_ok F.d_check_number sc_check_number, bad_ok F.d_inverse_of sc_inverse_of, bad_ok F.d_first_count sc_first_count, bad_ok F.d_two_pay sc_two_pay, bad_ok F.d_two_ways sc_two_ways, bad_ok F.d_two_fewest sc_two_fewest, bad_ok F.d_two_most sc_two_most, bad_ok F.d_two_signed sc_two_signed, bad_ok F.d__law_hand sc__law_hand, bad_ok F.d__law_draw sc__law_draw, bad_ok F.d__law_some sc__law_some, bad_ok F.d__law_is sc__law_is, bad_ok F.d__law_gcd sc__law_gcd, bad_ok F.d__law_turned sc__law_turned, bad_ok F.d__law_split sc__law_split, bad_ok F.d__law_prime_pair sc__law_prime_pair, bad_ok F.d__law_due sc__law_due, bad_ok F.d__law_told sc__law_told, bad_ok F.d__law_listed sc__law_listed, bad_ok F.d__law_numbers sc__law_numbers, bad_ok F.d__law_is_right sc__law_is_right, bad_ok F.d__law_is_listed_right sc__law_is_listed_right, bad_ok F.d__law_are_errors_right sc__law_are_errors_right, bad_ok F.d_law sc_law⟩
theorem ok_is_integer (F : Fs K mg) (TB : ∀ (i : Nat) {p : He.Defn}, tf[i]? = some p → LamX.TabB base mg (He.cT K p).1 (He.cT K p).2) (A : All P w K mg base WF n) : FnOk P w K mg base (L2.CX P w) (3 * (n + 1) + 1) (He.fAd K ("is_integer", none)) (fdOf K ("is_integer", none)) ["thing"] (spF (Yw K) (callD tb WF (n + 1) 0)) := by
  have sc := sc_is_integer
  rw [callD_succ (fn := fn_is_integer) rfl]
  refine fn_ok (k := 3 * (n + 1)) (U := ⟨WF, callD tb WF n, mdOf tb⟩) F.d_is_integer sc rfl rfl fun cdv A0 outer s0 H0 E hr3 hcd => ?_
  have hr1 : Room (3 * n + 1) _ := hr3.mono (by omega)
  exact (ss_cons (st_ret (s_and (s_isi rfl (isC0 fun _ h => h) F.v_isinstance (.bi (by intro c z; cases z)) (.ty "int") (pe_bltn rfl F.v_int (by decide +kernel) rfl) x_pk) (s_and1 (s_not (s_isi rfl (isC0 fun _ h => h) F.v_isinstance (.bi (by intro c z; cases z)) (.ty "bool") (pe_bltn rfl F.v_bool (by decide +kernel) rfl) x_pk))))) ss_nil)
theorem ok_common (F : Fs K mg) (TB : ∀ (i : Nat) {p : He.Defn}, tf[i]? = some p → LamX.TabB base mg (He.cT K p).1 (He.cT K p).2) (A : All P w K mg base WF n) : FnOk P w K mg base (L2.CX P w) (3 * (n + 1) + 1) (He.fAd K ("common", none)) (fdOf K ("common", none)) ["one", "other"] (spF (Yw K) (callD tb WF (n + 1) 1)) := by
  have sc := sc_common
  rw [callD_succ (fn := fn_common) rfl]
  refine fn_ok (k := 3 * (n + 1)) (U := ⟨WF, callD tb WF n, mdOf tb⟩) F.d_common sc rfl rfl fun cdv A0 outer s0 H0 E hr3 hcd => ?_
  have hr1 : Room (3 * n + 1) _ := hr3.mono (by omega)
  exact (ss_cons (st_par2 rfl sc.nd (p_cons (f_abs F.v_abs x_pk) (p_cons (f_abs F.v_abs x_pk) p_nil))) (ss_cons (st_while (passes_of rfl) (c_t k_gt x_pk (x_e s_int)) (ss_cons (st_par2 rfl sc.nd (p_cons s_var (p_cons (b_mod x_pk x_pk) p_nil))) ss_nil)) (ss_cons (st_ret s_var) ss_nil)))
theorem ok_check_two (F : Fs K mg) (TB : ∀ (i : Nat) {p : He.Defn}, tf[i]? = some p → LamX.TabB base mg (He.cT K p).1 (He.cT K p).2) (A : All P w K mg base WF n) : FnOk P w K mg base (L2.CX P w) (3 * (n + 1) + 1) (He.fAd K ("check_two", none)) (fdOf K ("check_two", none)) ["one", "other"] (spF (Yw K) (callD tb WF (n + 1) 3)) := by
  have sc := sc_check_two
  rw [callD_succ (fn := fn_check_two) rfl]
  refine fn_ok (k := 3 * (n + 1)) (U := ⟨WF, callD tb WF n, mdOf tb⟩) F.d_check_two sc rfl rfl fun cdv A0 outer s0 H0 E hr3 hcd => ?_
  have hr1 : Room (3 * n + 1) _ := hr3.mono (by omega)
  exact (ss_cons (st_for (passes_of rfl) rfl (i_seq rfl (x_e (s_tup (a_cons (x_e s_var) (a_cons (x_e s_var) a_nil))))) (g_nm sc.nd nmi) (ss_cons (st_if (t_pw (w_or (t_not (t_of (s_callD A.f_is_integer F.g_is_integer hr1 (takes_of rfl rfl rfl rfl) (a_cons x_pk a_nil)))) (w_or1 (t_not (t_chn k_le k_le (x_e s_int) x_pk (x_e (s_glbI F.i_MOST_SIZE))))))) (ss_cons (st_rse1 rfl (takes_of rfl rfl rfl rfl) (exc1_BadCoins F) (hr3.mono (by omega)) (x_e (u_neg (x_e s_int)))) ss_nil) ss_nil) ss_nil)) (ss_cons (st_if (c_t (k_ne rfl (u64 hr1.u69)) (x_e (s_callD A.f_common F.g_common hr1 (takes_of rfl rfl rfl rfl) (a_cons (x_e s_var) (a_cons (x_e s_var) a_nil)))) (x_e s_int)) (ss_cons (st_rse1 rfl (takes_of rfl rfl rfl rfl) (exc1_BadCoins F) (hr3.mono (by omega)) (x_e (u_neg (x_e s_int)))) ss_nil) ss_nil) ss_nil))
theorem ok_check_number (F : Fs K mg) (TB : ∀ (i : Nat) {p : He.Defn}, tf[i]? = some p → LamX.TabB base mg (He.cT K p).1 (He.cT K p).2) (A : All P w K mg base WF n) : FnOk P w K mg base (L2.CX P w) (3 * (n + 1) + 1) (He.fAd K ("check_number", none)) (fdOf K ("check_number", none)) ["number"] (spF (Yw K) (callD tb WF (n + 1) 4)) := by
  have sc := sc_check_number
  rw [callD_succ (fn := fn_check_number) rfl]
  refine fn_ok (k := 3 * (n + 1)) (U := ⟨WF, callD tb WF n, mdOf tb⟩) F.d_check_number sc rfl rfl fun cdv A0 outer s0 H0 E hr3 hcd => ?_
  have hr1 : Room (3 * n + 1) _ := hr3.mono (by omega)
  exact (ss_cons (st_if (t_pw (w_or (t_not (t_of (s_callD A.f_is_integer F.g_is_integer hr1 (takes_of rfl rfl rfl rfl) (a_cons x_pk a_nil)))) (w_or1 (c_t k_gt (x_e (f_abs F.v_abs x_pk)) (x_e (b_mul (x_e (b_mul (x_e (s_glbI F.i_MOST_SIZE)) (x_e (s_glbI F.i_MOST_SIZE)))) (x_e (s_glbI F.i_MOST_SIZE)))))))) (ss_cons (st_rse0 rfl (takes_of rfl rfl rfl rfl) (exc0_BadNumber F)) ss_nil) ss_nil) ss_nil)
theorem ok_inverse_of (F : Fs K mg) (TB : ∀ (i : Nat) {p : He.Defn}, tf[i]? = some p → LamX.TabB base mg (He.cT K p).1 (He.cT K p).2) (A : All P w K mg base WF n) : FnOk P w K mg base (L2.CX P w) (3 * (n + 1) + 1) (He.fAd K ("inverse_of", none)) (fdOf K ("inverse_of", none)) ["one", "modulus"] (spF (Yw K) (callD tb WF (n + 1) 5)) := by
  have sc := sc_inverse_of
  rw [callD_succ (fn := fn_inverse_of) rfl]
  refine fn_ok (k := 3 * (n + 1)) (U := ⟨WF, callD tb WF n, mdOf tb⟩) F.d_inverse_of sc rfl rfl fun cdv A0 outer s0 H0 E hr3 hcd => ?_
  have hr1 : Room (3 * n + 1) _ := hr3.mono (by omega)
  exact (ss_cons (st_asg (s_tup (a_cons (x_e s_int) (a_cons (x_e s_int) (a_cons (x_e (b_mod x_pk x_pk)) (a_cons (x_e s_var) a_nil))))) (g_tp rfl rfl sc.nd (.cons nmi (.cons nmi (.cons nmi (.cons nmi .nil)))))) (ss_cons (st_while (passes_of rfl) (c_t (k_ne rfl (u64 hr1.u69)) x_pk (x_e s_int)) (ss_cons (st_asg (b_fdiv x_pk x_pk) (g_nm sc.nd nmi)) (ss_cons (st_par2 rfl sc.nd (p_cons s_var (p_cons (b_sub x_pk (x_e (b_mul x_pk x_pk))) p_nil))) (ss_cons (st_par2 rfl sc.nd (p_cons s_var (p_cons (b_sub x_pk (x_e (b_mul x_pk x_pk))) p_nil))) ss_nil)))) (ss_cons (st_ret (b_mod x_pk x_pk)) ss_nil)))
theorem ok_first_count (F : Fs K mg) (TB : ∀ (i : Nat) {p : He.Defn}, tf[i]? = some p → LamX.TabB base mg (He.cT K p).1 (He.cT K p).2) (A : All P w K mg base WF n) : FnOk P w K mg base (L2.CX P w) (3 * (n + 1) + 1) (He.fAd K ("first_count", none)) (fdOf K ("first_count", none)) ["one", "other", "number"] (spF (Yw K) (callD tb WF (n + 1) 6)) := by
  have sc := sc_first_count
  rw [callD_succ (fn := fn_first_count) rfl]
  refine fn_ok (k := 3 * (n + 1)) (U := ⟨WF, callD tb WF n, mdOf tb⟩) F.d_first_count sc rfl rfl fun cdv A0 outer s0 H0 E hr3 hcd => ?_
  have hr1 : Room (3 * n + 1) _ := hr3.mono (by omega)
  exact (ss_cons (st_ret (b_mod (x_e (b_mul x_pk (x_e (s_callD A.f_inverse_of F.g_inverse_of hr1 (takes_of rfl rfl rfl rfl) (a_cons x_pk (a_cons x_pk a_nil)))))) x_pk)) ss_nil)
theorem ok_two_pay (F : Fs K mg) (TB : ∀ (i : Nat) {p : He.Defn}, tf[i]? = some p → LamX.TabB base mg (He.cT K p).1 (He.cT K p).2) (A : All P w K mg base WF n) : FnOk P w K mg base (L2.CX P w) (3 * (n + 1) + 1) (He.fAd K ("two_pay", none)) (fdOf K ("two_pay", none)) ["one", "other", "number"] (spF (Yw K) (callD tb WF (n + 1) 7)) := by
  have sc := sc_two_pay
  rw [callD_succ (fn := fn_two_pay) rfl]
  refine fn_ok (k := 3 * (n + 1)) (U := ⟨WF, callD tb WF n, mdOf tb⟩) F.d_two_pay sc rfl rfl fun cdv A0 outer s0 H0 E hr3 hcd => ?_
  have hr1 : Room (3 * n + 1) _ := hr3.mono (by omega)
  exact (ss_cons (st_ex (s_callD A.f_check_two F.g_check_two hr1 (takes_of rfl rfl rfl rfl) (a_cons x_pk (a_cons x_pk a_nil)))) (ss_cons (st_ex (s_callD A.f_check_number F.g_check_number hr1 (takes_of rfl rfl rfl rfl) (a_cons x_pk a_nil))) (ss_cons (st_asg (s_callD A.f_first_count F.g_first_count hr1 (takes_of rfl rfl rfl rfl) (a_cons x_pk (a_cons x_pk (a_cons x_pk a_nil)))) (g_nm sc.nd nmi)) (ss_cons (st_asg (b_sub x_pk (x_e (b_mul x_pk x_pk))) (g_nm sc.nd nmi)) (ss_cons (st_ret (s_ite (c_t k_ge x_pk (x_e s_int)) (s_tup (a_cons (x_e s_var) (a_cons (x_e (b_fdiv x_pk x_pk)) a_nil))) s_non)) ss_nil)))))
theorem ok_two_ways (F : Fs K mg) (TB : ∀ (i : Nat) {p : He.Defn}, tf[i]? = some p → LamX.TabB base mg (He.cT K p).1 (He.cT K p).2) (A : All P w K mg base WF n) : FnOk P w K mg base (L2.CX P w) (3 * (n + 1) + 1) (He.fAd K ("two_ways", none)) (fdOf K ("two_ways", none)) ["one", "other", "number"] (spF (Yw K) (callD tb WF (n + 1) 8)) := by
  have sc := sc_two_ways
  rw [callD_succ (fn := fn_two_ways) rfl]
  refine fn_ok (k := 3 * (n + 1)) (U := ⟨WF, callD tb WF n, mdOf tb⟩) F.d_two_ways sc rfl rfl fun cdv A0 outer s0 H0 E hr3 hcd => ?_
  have hr1 : Room (3 * n + 1) _ := hr3.mono (by omega)
  exact (ss_cons (st_ex (s_callD A.f_check_two F.g_check_two hr1 (takes_of rfl rfl rfl rfl) (a_cons x_pk (a_cons x_pk a_nil)))) (ss_cons (st_ex (s_callD A.f_check_number F.g_check_number hr1 (takes_of rfl rfl rfl rfl) (a_cons x_pk a_nil))) (ss_cons (st_asg (b_sub x_pk (x_e (b_mul (x_e (s_callD A.f_first_count F.g_first_count hr1 (takes_of rfl rfl rfl rfl) (a_cons x_pk (a_cons x_pk (a_cons x_pk a_nil))))) x_pk))) (g_nm sc.nd nmi)) (ss_cons (st_ret (s_ite (c_t k_ge x_pk (x_e s_int)) (b_add rfl (x_e (b_fdiv x_pk (x_e (b_mul x_pk x_pk)))) (x_e s_int)) s_int)) ss_nil))))
theorem ok_two_fewest (F : Fs K mg) (TB : ∀ (i : Nat) {p : He.Defn}, tf[i]? = some p → LamX.TabB base mg (He.cT K p).1 (He.cT K p).2) (A : All P w K mg base WF n) : FnOk P w K mg base (L2.CX P w) (3 * (n + 1) + 1) (He.fAd K ("two_fewest", none)) (fdOf K ("two_fewest", none)) ["one", "other", "number"] (spF (Yw K) (callD tb WF (n + 1) 9)) := by
  have sc := sc_two_fewest
  rw [callD_succ (fn := fn_two_fewest) rfl]
  refine fn_ok (k := 3 * (n + 1)) (U := ⟨WF, callD tb WF n, mdOf tb⟩) F.d_two_fewest sc rfl rfl fun cdv A0 outer s0 H0 E hr3 hcd => ?_
  have hr1 : Room (3 * n + 1) _ := hr3.mono (by omega)
  exact (ss_cons (st_ex (s_callD A.f_check_two F.g_check_two hr1 (takes_of rfl rfl rfl rfl) (a_cons x_pk (a_cons x_pk a_nil)))) (ss_cons (st_ex (s_callD A.f_check_number F.g_check_number hr1 (takes_of rfl rfl rfl rfl) (a_cons x_pk a_nil))) (ss_cons (st_par2 rfl sc.nd (p_cons (f_min2 rfl F.v_min x_pk x_pk) (p_cons (f_max2 rfl F.v_max x_pk x_pk) p_nil))) (ss_cons (st_asg (s_callD A.f_first_count F.g_first_count hr1 (takes_of rfl rfl rfl rfl) (a_cons x_pk (a_cons x_pk (a_cons x_pk a_nil)))) (g_nm sc.nd nmi)) (ss_cons (st_asg (b_sub x_pk (x_e (b_mul x_pk x_pk))) (g_nm sc.nd nmi)) (ss_cons (st_ret (s_ite (c_t k_ge x_pk (x_e s_int)) (b_add rfl x_pk (x_e (b_fdiv x_pk x_pk))) s_non)) ss_nil))))))
theorem ok_two_most (F : Fs K mg) (TB : ∀ (i : Nat) {p : He.Defn}, tf[i]? = some p → LamX.TabB base mg (He.cT K p).1 (He.cT K p).2) (A : All P w K mg base WF n) : FnOk P w K mg base (L2.CX P w) (3 * (n + 1) + 1) (He.fAd K ("two_most", none)) (fdOf K ("two_most", none)) ["one", "other", "number"] (spF (Yw K) (callD tb WF (n + 1) 10)) := by
  have sc := sc_two_most
  rw [callD_succ (fn := fn_two_most) rfl]
  refine fn_ok (k := 3 * (n + 1)) (U := ⟨WF, callD tb WF n, mdOf tb⟩) F.d_two_most sc rfl rfl fun cdv A0 outer s0 H0 E hr3 hcd => ?_
  have hr1 : Room (3 * n + 1) _ := hr3.mono (by omega)
  exact (ss_cons (st_ex (s_callD A.f_check_two F.g_check_two hr1 (takes_of rfl rfl rfl rfl) (a_cons x_pk (a_cons x_pk a_nil)))) (ss_cons (st_ex (s_callD A.f_check_number F.g_check_number hr1 (takes_of rfl rfl rfl rfl) (a_cons x_pk a_nil))) (ss_cons (st_par2 rfl sc.nd (p_cons (f_min2 rfl F.v_min x_pk x_pk) (p_cons (f_max2 rfl F.v_max x_pk x_pk) p_nil))) (ss_cons (st_asg (s_callD A.f_first_count F.g_first_count hr1 (takes_of rfl rfl rfl rfl) (a_cons x_pk (a_cons x_pk (a_cons x_pk a_nil)))) (g_nm sc.nd nmi)) (ss_cons (st_asg (b_sub x_pk (x_e (b_mul x_pk x_pk))) (g_nm sc.nd nmi)) (ss_cons (st_ret (s_ite (c_t k_ge x_pk (x_e s_int)) (b_add rfl x_pk (x_e (b_fdiv x_pk x_pk))) s_non)) ss_nil))))))
theorem ok_two_signed (F : Fs K mg) (TB : ∀ (i : Nat) {p : He.Defn}, tf[i]? = some p → LamX.TabB base mg (He.cT K p).1 (He.cT K p).2) (A : All P w K mg base WF n) : FnOk P w K mg base (L2.CX P w) (3 * (n + 1) + 1) (He.fAd K ("two_signed", none)) (fdOf K ("two_signed", none)) ["one", "other", "number"] (spF (Yw K) (callD tb WF (n + 1) 11)) := by
  have sc := sc_two_signed
  rw [callD_succ (fn := fn_two_signed) rfl]
  refine fn_ok (k := 3 * (n + 1)) (U := ⟨WF, callD tb WF n, mdOf tb⟩) F.d_two_signed sc rfl rfl fun cdv A0 outer s0 H0 E hr3 hcd => ?_
  have hr1 : Room (3 * n + 1) _ := hr3.mono (by omega)
  exact (ss_cons (st_ex (s_callD A.f_check_two F.g_check_two hr1 (takes_of rfl rfl rfl rfl) (a_cons x_pk (a_cons x_pk a_nil)))) (ss_cons (st_ex (s_callD A.f_check_number F.g_check_number hr1 (takes_of rfl rfl rfl rfl) (a_cons x_pk a_nil))) (ss_cons (st_asg (s_callD A.f_first_count F.g_first_count hr1 (takes_of rfl rfl rfl rfl) (a_cons x_pk (a_cons x_pk (a_cons x_pk a_nil)))) (g_nm sc.nd nmi)) (ss_cons (st_ret (s_tup (a_cons (x_e s_var) (a_cons (x_e (b_fdiv (x_e (b_sub x_pk (x_e (b_mul x_pk x_pk)))) x_pk)) a_nil)))) ss_nil))))
theorem ok__law_hand (F : Fs K mg) (TB : ∀ (i : Nat) {p : He.Defn}, tf[i]? = some p → LamX.TabB base mg (He.cT K p).1 (He.cT K p).2) (A : All P w K mg base WF n) : FnOk P w K mg base (L2.CX P w) (3 * (n + 1) + 1) (He.fAd K ("_law_hand", none)) (fdOf K ("_law_hand", none)) ["script"] (spF (Yw K) (callD tb WF (n + 1) 12)) := by
  have sc := sc__law_hand
  rw [callD_succ (fn := fn__law_hand) rfl]
  refine fn_ok (k := 3 * (n + 1)) (U := ⟨WF, callD tb WF n, mdOf tb⟩) F.d__law_hand sc rfl rfl fun cdv A0 outer s0 H0 E hr3 hcd => ?_
  have hr1 : Room (3 * n + 1) _ := hr3.mono (by omega)
  exact (ss_cons (st_asgLc0 (own := [("cell", 2)]) rfl sc.nd (i_seq rfl (x_e (s_slB rfl x_pk s_int))) (blkOk_by (by rfl)) (fun _ _ _ _ _ => (g_nm sc.nd nmi)) (fun _ _ _ _ _ => (f_abs F.v_abs (x_e (f_int F.v_int x_pk))))) (ss_cons (st_ret (s_lst (a_cons (x_e s_var) (a_cons (x_e s_int) (a_cons (x_e s_int) (a_cons (x_e (b_add rfl (x_e s_int) (x_e (b_mul (x_e s_int) (x_e (f_len rfl F.v_len x_pk)))))) (a_cons (x_e s_int) a_nil))))))) ss_nil))
theorem ok__law_draw (F : Fs K mg) (TB : ∀ (i : Nat) {p : He.Defn}, tf[i]? = some p → LamX.TabB base mg (He.cT K p).1 (He.cT K p).2) (A : All P w K mg base WF n) : FnOk P w K mg base (L2.CX P w) (3 * (n + 1) + 1) (He.fAd K ("_law_draw", none)) (fdOf K ("_law_draw", none)) ["hand", "many"] (spF (Yw K) (callD tb WF (n + 1) 13)) := by
  have sc := sc__law_draw
  rw [callD_succ (fn := fn__law_draw) rfl]
  refine fn_ok (k := 3 * (n + 1)) (U := ⟨WF, callD tb WF n, mdOf tb⟩) F.d__law_draw sc rfl rfl fun cdv A0 outer s0 H0 E hr3 hcd => ?_
  have hr1 : Room (3 * n + 1) _ := hr3.mono (by omega)
  exact (ss_cons (st_if (t_pw (w_and (c_t (k_eq rfl (u64 hr1.u69)) (x_e (s_idx rfl x_pk (x_e s_int))) (x_e s_int)) (w_and1 (c_t (k_lt rfl hr1.u69) (x_e (s_idx rfl x_pk (x_e s_int))) (x_e (f_len rfl F.v_len (x_e (s_idx rfl x_pk (x_e s_int))))))))) (ss_cons (st_asg (s_idx rfl (x_e (s_idx rfl x_pk (x_e s_int))) (x_e (s_idx rfl x_pk (x_e s_int)))) (g_nm sc.nd nmi)) (ss_cons (st_seti x_pk (x_e (b_add rfl (x_e (s_idx rfl x_pk (x_e s_int))) (x_e s_int))) (x_e s_int)) (ss_cons (st_seti x_pk (x_e (b_mod (x_e (f_int F.v_int (x_e (b_add rfl (x_e (b_add rfl (x_e (b_mul (x_e (s_idx rfl x_pk (x_e s_int))) (x_e s_int))) x_pk)) (x_e s_int))))) (x_e s_int))) (x_e s_int)) (ss_cons (st_if (c_t k_ge x_pk (x_e (b_pow (x_e s_int) (x_e s_int)))) (ss_cons (st_seti x_pk (x_e s_var) (x_e s_int)) ss_nil) ss_nil) ss_nil)))) ss_nil) (ss_cons (st_if (c_t k_gt (x_e (s_idx rfl x_pk (x_e s_int))) (x_e s_int)) (ss_cons (st_asg (b_mod (x_e (f_int F.v_int (x_e (s_idx rfl x_pk (x_e s_int))))) x_pk) (g_nm sc.nd nmi)) (ss_cons (st_seti x_pk (x_e (b_fdiv (x_e (s_idx rfl x_pk (x_e s_int))) x_pk)) (x_e s_int)) (ss_cons (st_ret s_mv) ss_nil))) ss_nil) (ss_cons (st_seti x_pk (x_e (b_add rfl (x_e (s_idx rfl x_pk (x_e s_int))) (x_e s_int))) (x_e s_int)) (ss_cons (st_asg (b_mod (x_e (f_int F.v_int (x_e (b_mul (x_e (f_int F.v_int (x_e (b_add rfl (x_e (s_idx rfl x_pk (x_e s_int))) (x_e (b_mul (x_e s_int) (x_e (s_idx rfl x_pk (x_e s_int))))))))) (x_e s_int))))) (x_e s_int)) (g_nm sc.nd nmi)) (ss_cons (st_asg (b_mod (x_e (f_int F.v_int (x_e (b_mul x_pk (x_e (b_add rfl (x_e (b_fdiv x_pk (x_e s_int))) (x_e s_int))))))) (x_e s_int)) (g_nm sc.nd nmi)) (ss_cons (st_asg (b_mod (x_e (f_int F.v_int (x_e (b_mul x_pk (x_e (b_add rfl (x_e (b_fdiv x_pk (x_e s_int))) (x_e s_int))))))) (x_e s_int)) (g_nm sc.nd nmi)) (ss_cons (st_ret (b_mod (x_e (f_int F.v_int (x_e (b_fdiv x_pk (x_e s_int))))) x_pk)) ss_nil)))))))
theorem ok__law_some (F : Fs K mg) (TB : ∀ (i : Nat) {p : He.Defn}, tf[i]? = some p → LamX.TabB base mg (He.cT K p).1 (He.cT K p).2) (A : All P w K mg base WF n) : FnOk P w K mg base (L2.CX P w) (3 * (n + 1) + 1) (He.fAd K ("_law_some", none)) (fdOf K ("_law_some", none)) ["hand", "things"] (spF (Yw K) (callD tb WF (n + 1) 14)) := by
  have sc := sc__law_some
  rw [callD_succ (fn := fn__law_some) rfl]
  refine fn_ok (k := 3 * (n + 1)) (U := ⟨WF, callD tb WF n, mdOf tb⟩) F.d__law_some sc rfl rfl fun cdv A0 outer s0 H0 E hr3 hcd => ?_
  have hr1 : Room (3 * n + 1) _ := hr3.mono (by omega)
  exact (ss_cons (st_ret (s_idx rfl x_pk (x_e (s_callD A.f__law_draw F.g__law_draw hr1 (takes_of rfl rfl rfl rfl) (a_cons x_pk (a_cons (x_e (f_len rfl F.v_len x_pk)) a_nil)))))) ss_nil)
theorem ok__law_is (F : Fs K mg) (TB : ∀ (i : Nat) {p : He.Defn}, tf[i]? = some p → LamX.TabB base mg (He.cT K p).1 (He.cT K p).2) (A : All P w K mg base WF n) : FnOk P w K mg base (L2.CX P w) (3 * (n + 1) + 1) (He.fAd K ("_law_is", none)) (fdOf K ("_law_is", none)) ["got", "due"] (spF (Yw K) (callD tb WF (n + 1) 15)) := by
  have sc := sc__law_is
  rw [callD_succ (fn := fn__law_is) rfl]
  refine fn_ok (k := 3 * (n + 1)) (U := ⟨WF, callD tb WF n, mdOf tb⟩) F.d__law_is sc rfl rfl fun cdv A0 outer s0 H0 E hr3 hcd => ?_
  have hr1 : Room (3 * n + 1) _ := hr3.mono (by omega)
  exact (ss_cons (st_if (t_of (s_isiT rfl (isC0 fun _ h => h) F.v_isinstance (.cons (.bi (by intro c z; cases z)) (.cons (.bi (by intro c z; cases z)) .nil)) (.cons (.ty "tuple") (.cons (.ty "list") .nil)) (by simp) (by decide) (pa_c1 (pe_bltn rfl F.v_tuple (by decide +kernel) rfl) (pa_c1 (pe_bltn rfl F.v_list (by decide +kernel) rfl) pa_c0)) x_pk)) (ss_cons (st_if (c_t (k_ne rfl (u64 hr1.u69)) (x_e (s_isi rfl (isC0 fun _ h => h) F.v_isinstance (.bi (by intro c z; cases z)) (.ty "tuple") (pe_bltn rfl F.v_tuple (by decide +kernel) rfl) x_pk)) (x_e (s_isi rfl (isC0 fun _ h => h) F.v_isinstance (.bi (by intro c z; cases z)) (.ty "tuple") (pe_bltn rfl F.v_tuple (by decide +kernel) rfl) x_pk))) (ss_cons (st_ret s_bl) ss_nil) ss_nil) (ss_cons (st_if (t_pw (w_or (c_t (k_ne rfl (u64 hr1.u69)) (x_e (s_isi rfl (isC0 fun _ h => h) F.v_isinstance (.bi (by intro c z; cases z)) (.ty "list") (pe_bltn rfl F.v_list (by decide +kernel) rfl) x_pk)) (x_e (s_isi rfl (isC0 fun _ h => h) F.v_isinstance (.bi (by intro c z; cases z)) (.ty "list") (pe_bltn rfl F.v_list (by decide +kernel) rfl) x_pk))) (w_or1 (c_t (k_ne rfl (u64 hr1.u69)) (x_e (f_len rfl F.v_len x_pk)) (x_e (f_len rfl F.v_len x_pk)))))) (ss_cons (st_ret s_bl) ss_nil) ss_nil) (ss_cons (st_ret (f_all rfl F.v_all (x_e (s_lc0 (own := [("one", 2), ("other", 3)]) rfl sc.nd (i_zip rfl F.v_zip (a_cons (x_e s_var) (a_cons (x_e s_var) a_nil))) (blkOk_by (by rfl)) (fun _ _ _ _ _ => (g_tp rfl rfl sc.nd (.cons nmi (.cons nmi .nil)))) (fun _ _ _ _ _ => (s_callD A.f__law_is F.g__law_is hr1 L2.takes0 (a_cons x_pk (a_cons x_pk a_nil)))))))) ss_nil))) ss_nil) (ss_cons (st_if (t_pw (w_or (t_isN x_pk) (w_or1 (t_isN x_pk)))) (ss_cons (st_ret (s_and (c_isN x_pk) (s_and1 (c_isN x_pk)))) ss_nil) ss_nil) (ss_cons (st_if (c_t (k_ne rfl (u64 hr1.u69)) (x_e (s_isi rfl (isC0 fun _ h => h) F.v_isinstance (.bi (by intro c z; cases z)) (.ty "bool") (pe_bltn rfl F.v_bool (by decide +kernel) rfl) x_pk)) (x_e (s_isi rfl (isC0 fun _ h => h) F.v_isinstance (.bi (by intro c z; cases z)) (.ty "bool") (pe_bltn rfl F.v_bool (by decide +kernel) rfl) x_pk))) (ss_cons (st_ret s_bl) ss_nil) ss_nil) (ss_cons (st_ret (s_and (c_e (k_eq rfl (u64 hr1.u69)) (x_e (s_isi rfl (isC0 fun _ h => h) F.v_isinstance (.bi (by intro c z; cases z)) (.ty "str") (pe_bltn rfl F.v_str (by decide +kernel) rfl) x_pk)) (x_e (s_isi rfl (isC0 fun _ h => h) F.v_isinstance (.bi (by intro c z; cases z)) (.ty "str") (pe_bltn rfl F.v_str (by decide +kernel) rfl) x_pk))) (s_and1 (c_e (k_eq rfl (u64 hr1.u69)) x_pk x_pk)))) ss_nil))))
theorem ok__law_gcd (F : Fs K mg) (TB : ∀ (i : Nat) {p : He.Defn}, tf[i]? = some p → LamX.TabB base mg (He.cT K p).1 (He.cT K p).2) (A : All P w K mg base WF n) : FnOk P w K mg base (L2.CX P w) (3 * (n + 1) + 1) (He.fAd K ("_law_gcd", none)) (fdOf K ("_law_gcd", none)) ["a", "b"] (spF (Yw K) (callD tb WF (n + 1) 16)) := by
  have sc := sc__law_gcd
  rw [callD_succ (fn := fn__law_gcd) rfl]
  refine fn_ok (k := 3 * (n + 1)) (U := ⟨WF, callD tb WF n, mdOf tb⟩) F.d__law_gcd sc rfl rfl fun cdv A0 outer s0 H0 E hr3 hcd => ?_
  have hr1 : Room (3 * n + 1) _ := hr3.mono (by omega)
  exact (ss_cons (st_while (passes_of rfl) (c_t k_gt x_pk (x_e s_int)) (ss_cons (st_par2 rfl sc.nd (p_cons s_var (p_cons (b_mod (x_e (f_int F.v_int x_pk)) x_pk) p_nil))) ss_nil)) (ss_cons (st_ret s_var) ss_nil))
theorem ok__law_turned (F : Fs K mg) (TB : ∀ (i : Nat) {p : He.Defn}, tf[i]? = some p → LamX.TabB base mg (He.cT K p).1 (He.cT K p).2) (A : All P w K mg base WF n) : FnOk P w K mg base (L2.CX P w) (3 * (n + 1) + 1) (He.fAd K ("_law_turned", none)) (fdOf K ("_law_turned", none)) ["one", "other"] (spF (Yw K) (callD tb WF (n + 1) 17)) := by
  have sc := sc__law_turned
  rw [callD_succ (fn := fn__law_turned) rfl]
  refine fn_ok (k := 3 * (n + 1)) (U := ⟨WF, callD tb WF n, mdOf tb⟩) F.d__law_turned sc rfl rfl fun cdv A0 outer s0 H0 E hr3 hcd => ?_
  have hr1 : Room (3 * n + 1) _ := hr3.mono (by omega)
  exact (ss_cons (st_asg (s_tup (a_cons (x_e s_var) (a_cons (x_e s_var) (a_cons (x_e s_int) (a_cons (x_e s_int) a_nil))))) (g_tp rfl rfl sc.nd (.cons nmi (.cons nmi (.cons nmi (.cons nmi .nil)))))) (ss_cons (st_while (passes_of rfl) (c_t k_gt x_pk (x_e s_int)) (ss_cons (st_asg (b_fdiv x_pk x_pk) (g_nm sc.nd nmi)) (ss_cons (st_asg (s_tup (a_cons (x_e s_var) (a_cons (x_e (b_sub x_pk (x_e (b_mul x_pk x_pk)))) (a_cons (x_e s_var) (a_cons (x_e (b_sub x_pk (x_e (b_mul x_pk x_pk)))) a_nil))))) (g_tp rfl rfl sc.nd (.cons nmi (.cons nmi (.cons nmi (.cons nmi .nil)))))) ss_nil))) (ss_cons (st_ret (b_mod (x_e (f_int F.v_int x_pk)) x_pk)) ss_nil)))
theorem ok__law_split (F : Fs K mg) (TB : ∀ (i : Nat) {p : He.Defn}, tf[i]? = some p → LamX.TabB base mg (He.cT K p).1 (He.cT K p).2) (A : All P w K mg base WF n) : FnOk P w K mg base (L2.CX P w) (3 * (n + 1) + 1) (He.fAd K ("_law_split", none)) (fdOf K ("_law_split", none)) ["one", "other", "number"] (spF (Yw K) (callD tb WF (n + 1) 18)) := by
  have sc := sc__law_split
  rw [callD_succ (fn := fn__law_split) rfl]
  refine fn_ok (k := 3 * (n + 1)) (U := ⟨WF, callD tb WF n, mdOf tb⟩) F.d__law_split sc rfl rfl fun cdv A0 outer s0 H0 E hr3 hcd => ?_
  have hr1 : Room (3 * n + 1) _ := hr3.mono (by omega)
  exact (ss_cons (st_asg (b_mod (x_e (f_int F.v_int (x_e (b_mul x_pk (x_e (s_callD A.f__law_turned F.g__law_turned hr1 (takes_of rfl rfl rfl rfl) (a_cons x_pk (a_cons x_pk a_nil)))))))) x_pk) (g_nm sc.nd nmi)) (ss_cons (st_ret (s_tup (a_cons (x_e s_var) (a_cons (x_e (b_fdiv (x_e (b_sub x_pk (x_e (b_mul x_pk x_pk)))) x_pk)) a_nil)))) ss_nil))
theorem ok__law_prime_pair (F : Fs K mg) (TB : ∀ (i : Nat) {p : He.Defn}, tf[i]? = some p → LamX.TabB base mg (He.cT K p).1 (He.cT K p).2) (A : All P w K mg base WF n) : FnOk P w K mg base (L2.CX P w) (3 * (n + 1) + 1) (He.fAd K ("_law_prime_pair", none)) (fdOf K ("_law_prime_pair", none)) ["hand", "most"] (spF (Yw K) (callD tb WF (n + 1) 19)) := by
  have sc := sc__law_prime_pair
  rw [callD_succ (fn := fn__law_prime_pair) rfl]
  refine fn_ok (k := 3 * (n + 1)) (U := ⟨WF, callD tb WF n, mdOf tb⟩) F.d__law_prime_pair sc rfl rfl fun cdv A0 outer s0 H0 E hr3 hcd => ?_
  have hr1 : Room (3 * n + 1) _ := hr3.mono (by omega)
  exact (ss_cons (st_par2 rfl sc.nd (p_cons (b_add rfl (x_e s_int) (x_e (s_callD A.f__law_draw F.g__law_draw hr1 (takes_of rfl rfl rfl rfl) (a_cons x_pk (a_cons x_pk a_nil))))) (p_cons (b_add rfl (x_e s_int) (x_e (s_callD A.f__law_draw F.g__law_draw hr1 (takes_of rfl rfl rfl rfl) (a_cons x_pk (a_cons x_pk a_nil))))) p_nil))) (ss_cons (st_asg (s_callD A.f__law_gcd F.g__law_gcd hr1 (takes_of rfl rfl rfl rfl) (a_cons (x_e s_var) (a_cons (x_e s_var) a_nil))) (g_nm sc.nd nmi)) (ss_cons (st_ret (s_tup (a_cons (x_e (b_fdiv x_pk x_pk)) (a_cons (x_e (b_fdiv x_pk x_pk)) a_nil)))) ss_nil)))
theorem ok__law_due (F : Fs K mg) (TB : ∀ (i : Nat) {p : He.Defn}, tf[i]? = some p → LamX.TabB base mg (He.cT K p).1 (He.cT K p).2) (A : All P w K mg base WF n) : FnOk P w K mg base (L2.CX P w) (3 * (n + 1) + 1) (He.fAd K ("_law_due", none)) (fdOf K ("_law_due", none)) ["one", "other", "number"] (spF (Yw K) (callD tb WF (n + 1) 21)) := by
  have sc := sc__law_due
  rw [callD_succ (fn := fn__law_due) rfl]
  refine fn_ok (k := 3 * (n + 1)) (U := ⟨WF, callD tb WF n, mdOf tb⟩) F.d__law_due sc rfl rfl fun cdv A0 outer s0 H0 E hr3 hcd => ?_
  have hr1 : Room (3 * n + 1) _ := hr3.mono (by omega)
  exact (ss_cons (st_asg (s_callD A.f__law_split F.g__law_split hr1 (takes_of rfl rfl rfl rfl) (a_cons x_pk (a_cons x_pk (a_cons x_pk a_nil)))) (g_tp rfl rfl sc.nd (.cons nmi (.cons nmi .nil)))) (ss_cons (st_if (c_t (k_lt rfl hr1.u69) x_pk (x_e s_int)) (ss_cons (st_ret (s_lst (a_cons (x_e s_non) (a_cons (x_e s_int) (a_cons (x_e s_non) (a_cons (x_e s_non) (a_cons (x_e (s_tup (a_cons (x_e s_var) (a_cons (x_e s_var) a_nil)))) a_nil))))))) ss_nil) ss_nil) (ss_cons (st_asg (b_fdiv x_pk x_pk) (g_nm sc.nd nmi)) (ss_cons (st_asg (s_lst (a_cons (x_e (b_add rfl x_pk x_pk)) (a_cons (x_e (b_sub (x_e (b_add rfl (x_e (b_add rfl x_pk (x_e (b_mul x_pk x_pk)))) x_pk)) (x_e (b_mul x_pk x_pk)))) a_nil))) (g_nm sc.nd nmi)) (ss_cons (st_ret (s_lst (a_cons (x_e (s_tup (a_cons (x_e s_var) (a_cons (x_e s_var) a_nil)))) (a_cons (x_e (b_add rfl x_pk (x_e s_int))) (a_cons (x_e (f_min rfl F.v_min x_pk)) (a_cons (x_e (f_max rfl rfl F.v_max x_pk)) (a_cons (x_e (s_tup (a_cons (x_e s_var) (a_cons (x_e s_var) a_nil)))) a_nil))))))) ss_nil)))))
theorem ok__law_told (F : Fs K mg) (TB : ∀ (i : Nat) {p : He.Defn}, tf[i]? = some p → LamX.TabB base mg (He.cT K p).1 (He.cT K p).2) (A : All P w K mg base WF n) : FnOk P w K mg base (L2.CX P w) (3 * (n + 1) + 1) (He.fAd K ("_law_told", none)) (fdOf K ("_law_told", none)) ["one", "other", "number"] (spF (Yw K) (callD tb WF (n + 1) 22)) := by
  have sc := sc__law_told
  rw [callD_succ (fn := fn__law_told) rfl]
  refine fn_ok (k := 3 * (n + 1)) (U := ⟨WF, callD tb WF n, mdOf tb⟩) F.d__law_told sc rfl rfl fun cdv A0 outer s0 H0 E hr3 hcd => ?_
  have hr1 : Room (3 * n + 1) _ := hr3.mono (by omega)
  exact (ss_cons (st_asg (s_lst (a_cons (x_e (s_callD A.f_two_pay F.g_two_pay hr1 (takes_of rfl rfl rfl rfl) (a_cons x_pk (a_cons x_pk (a_cons x_pk a_nil))))) (a_cons (x_e (s_callD A.f_two_ways F.g_two_ways hr1 (takes_of rfl rfl rfl rfl) (a_cons x_pk (a_cons x_pk (a_cons x_pk a_nil))))) (a_cons (x_e (s_callD A.f_two_fewest F.g_two_fewest hr1 (takes_of rfl rfl rfl rfl) (a_cons x_pk (a_cons x_pk (a_cons x_pk a_nil))))) a_nil)))) (g_nm sc.nd nmi)) (ss_cons (st_ret (b_add rfl x_pk (x_e (s_lst (a_cons (x_e (s_callD A.f_two_most F.g_two_most hr1 (takes_of rfl rfl rfl rfl) (a_cons x_pk (a_cons x_pk (a_cons x_pk a_nil))))) (a_cons (x_e (s_callD A.f_two_signed F.g_two_signed hr1 (takes_of rfl rfl rfl rfl) (a_cons x_pk (a_cons x_pk (a_cons x_pk a_nil))))) a_nil)))))) ss_nil))
theorem ok__law_listed (F : Fs K mg) (TB : ∀ (i : Nat) {p : He.Defn}, tf[i]? = some p → LamX.TabB base mg (He.cT K p).1 (He.cT K p).2) (A : All P w K mg base WF n) : FnOk P w K mg base (L2.CX P w) (3 * (n + 1) + 1) (He.fAd K ("_law_listed", none)) (fdOf K ("_law_listed", none)) ["one", "other", "number"] (spF (Yw K) (callD tb WF (n + 1) 23)) := by
  have sc := sc__law_listed
  rw [callD_succ (fn := fn__law_listed) rfl]
  refine fn_ok (k := 3 * (n + 1)) (U := ⟨WF, callD tb WF n, mdOf tb⟩) F.d__law_listed sc rfl rfl fun cdv A0 outer s0 H0 E hr3 hcd => ?_
  have hr1 : Room (3 * n + 1) _ := hr3.mono (by omega)
  exact (ss_cons (st_asgLc1 (own := [("x", 4)]) rfl sc.nd (i_rng1 F.v_range (a_cons (x_e (f_max2 rfl F.v_max (x_e s_int) (x_e (b_add rfl (x_e (b_fdiv x_pk x_pk)) (x_e s_int))))) a_nil)) (blkOk_by (by rfl)) (fun _ _ _ _ _ => (g_nm sc.nd nmi)) (fun _ _ _ _ _ => (c_t (k_eq rfl (u64 hr1.u69)) (x_e (b_mod (x_e (f_int F.v_int (x_e (b_sub x_pk (x_e (b_mul x_pk x_pk)))))) x_pk)) (x_e s_int))) (fun _ _ _ _ _ => s_var)) (ss_cons (st_ret (s_lc0 (own := [("x", 4)]) rfl sc.nd (i_seq rfl (x_e s_var)) (blkOk_by (by rfl)) (fun _ _ _ _ _ => (g_nm sc.nd nmi)) (fun _ _ _ _ _ => (s_tup (a_cons (x_e s_var) (a_cons (x_e (b_fdiv (x_e (b_sub x_pk (x_e (b_mul x_pk x_pk)))) x_pk)) a_nil)))))) ss_nil))
theorem ok__law_numbers (F : Fs K mg) (TB : ∀ (i : Nat) {p : He.Defn}, tf[i]? = some p → LamX.TabB base mg (He.cT K p).1 (He.cT K p).2) (A : All P w K mg base WF n) : FnOk P w K mg base (L2.CX P w) (3 * (n + 1) + 1) (He.fAd K ("_law_numbers", none)) (fdOf K ("_law_numbers", none)) ["hand", "one", "other"] (spF (Yw K) (callD tb WF (n + 1) 24)) := by
  have sc := sc__law_numbers
  rw [callD_succ (fn := fn__law_numbers) rfl]
  refine fn_ok (k := 3 * (n + 1)) (U := ⟨WF, callD tb WF n, mdOf tb⟩) F.d__law_numbers sc rfl rfl fun cdv A0 outer s0 H0 E hr3 hcd => ?_
  have hr1 : Room (3 * n + 1) _ := hr3.mono (by omega)
  exact (ss_cons (st_par2 rfl sc.nd (p_cons (b_sub (x_e (b_sub (x_e (b_mul x_pk x_pk)) x_pk)) x_pk) (p_cons (b_mul (x_e (b_pow (x_e s_int) (x_e s_int))) (x_e (b_pow (x_e s_int) (x_e s_int)))) p_nil))) (ss_cons (st_asg (b_add rfl (x_e (b_mul x_pk (x_e (s_callD A.f__law_draw F.g__law_draw hr1 (takes_of rfl rfl rfl rfl) (a_cons x_pk (a_cons (x_e s_int) a_nil)))))) (x_e (b_mul x_pk (x_e (s_callD A.f__law_draw F.g__law_draw hr1 (takes_of rfl rfl rfl rfl) (a_cons x_pk (a_cons (x_e s_int) a_nil))))))) (g_nm sc.nd nmi)) (ss_cons (st_asg (s_lst (a_cons (x_e (b_sub (x_e (b_add rfl x_pk (x_e (s_callD A.f__law_draw F.g__law_draw hr1 (takes_of rfl rfl rfl rfl) (a_cons x_pk (a_cons (x_e s_int) a_nil)))))) (x_e s_int))) (a_cons (x_e s_var) (a_cons (x_e (b_sub (x_e s_int) (x_e (s_callD A.f__law_draw F.g__law_draw hr1 (takes_of rfl rfl rfl rfl) (a_cons x_pk (a_cons (x_e s_int) a_nil)))))) (a_cons (x_e (b_add rfl (x_e (b_mul (x_e (b_mul x_pk x_pk)) (x_e (b_add rfl (x_e s_int) (x_e (s_callD A.f__law_draw F.g__law_draw hr1 (takes_of rfl rfl rfl rfl) (a_cons x_pk (a_cons (x_e s_int) a_nil)))))))) x_pk)) a_nil))))) (g_nm sc.nd nmi)) (ss_cons (st_asg (b_add rfl x_pk (x_e (s_lst (a_cons (x_e (s_callD A.f__law_draw F.g__law_draw hr1 (takes_of rfl rfl rfl rfl) (a_cons x_pk (a_cons x_pk a_nil)))) (a_cons (x_e s_int) (a_cons (x_e s_var) (a_cons (x_e s_var) (a_cons (x_e s_var) (a_cons (x_e (b_sub x_pk x_pk)) a_nil))))))))) (g_nm sc.nd nmi)) (ss_cons (st_ret (b_add rfl x_pk (x_e (s_lst (a_cons (x_e (b_sub x_pk (x_e (s_callD A.f__law_draw F.g__law_draw hr1 (takes_of rfl rfl rfl rfl) (a_cons x_pk (a_cons (x_e (b_add rfl (x_e (b_mul x_pk x_pk)) (x_e s_int))) a_nil)))))) a_nil))))) ss_nil)))))
theorem ok__law_is_right (F : Fs K mg) (TB : ∀ (i : Nat) {p : He.Defn}, tf[i]? = some p → LamX.TabB base mg (He.cT K p).1 (He.cT K p).2) (A : All P w K mg base WF n) : FnOk P w K mg base (L2.CX P w) (3 * (n + 1) + 1) (He.fAd K ("_law_is_right", none)) (fdOf K ("_law_is_right", none)) ["hand", "one", "other"] (spF (Yw K) (callD tb WF (n + 1) 25)) := by
  have sc := sc__law_is_right
  rw [callD_succ (fn := fn__law_is_right) rfl]
  refine fn_ok (k := 3 * (n + 1)) (U := ⟨WF, callD tb WF n, mdOf tb⟩) F.d__law_is_right sc rfl rfl fun cdv A0 outer s0 H0 E hr3 hcd => ?_
  have hr1 : Room (3 * n + 1) _ := hr3.mono (by omega)
  exact (ss_cons (st_for (passes_of rfl) rfl (i_seq rfl (x_e (s_callD A.f__law_numbers F.g__law_numbers hr1 (takes_of rfl rfl rfl rfl) (a_cons x_pk (a_cons x_pk (a_cons x_pk a_nil)))))) (g_nm sc.nd nmi) (ss_cons (st_asg (s_callD A.f__law_due F.g__law_due hr1 (takes_of rfl rfl rfl rfl) (a_cons x_pk (a_cons x_pk (a_cons x_pk a_nil)))) (g_nm sc.nd nmi)) (ss_cons (st_if (t_not (t_of (s_callD A.f__law_is F.g__law_is hr1 (takes_of rfl rfl rfl rfl) (a_cons (x_e (s_callD A.f__law_told F.g__law_told hr1 (takes_of rfl rfl rfl rfl) (a_cons x_pk (a_cons x_pk (a_cons x_pk a_nil))))) (a_cons x_pk a_nil))))) (ss_cons (st_ret s_bl) ss_nil) ss_nil) (ss_cons (st_if (t_pw (w_and (t_notN (x_e (s_idx rfl x_pk (x_e s_int)))) (w_and1 (c_t (k_ne rfl (u64 hr1.u69)) (x_e (b_add rfl (x_e (b_mul x_pk (x_e (s_idx rfl (x_e (s_idx rfl x_pk (x_e s_int))) (x_e s_int))))) (x_e (b_mul x_pk (x_e (s_idx rfl (x_e (s_idx rfl x_pk (x_e s_int))) (x_e s_int))))))) x_pk)))) (ss_cons (st_ret s_bl) ss_nil) ss_nil) (ss_cons (st_asg (s_callD A.f__law_told F.g__law_told hr1 (takes_of rfl rfl rfl rfl) (a_cons x_pk (a_cons x_pk (a_cons x_pk a_nil)))) (g_nm sc.nd nmi)) (ss_cons (st_if (t_not (t_of (s_callD A.f__law_is F.g__law_is hr1 (takes_of rfl rfl rfl rfl) (a_cons (x_e (s_lst (a_cons (x_e (s_slC rfl x_pk s_int s_int)) (a_cons (x_e (c_isN (x_e (s_idx rfl x_pk (x_e s_int))))) a_nil)))) (a_cons (x_e (s_lst (a_cons (x_e (s_slC rfl x_pk s_int s_int)) (a_cons (x_e (c_isN (x_e (s_idx rfl x_pk (x_e s_int))))) a_nil)))) a_nil))))) (ss_cons (st_ret s_bl) ss_nil) ss_nil) ss_nil)))))) (ss_cons (st_ret s_bl) ss_nil))
theorem ok__law_is_listed_right (F : Fs K mg) (TB : ∀ (i : Nat) {p : He.Defn}, tf[i]? = some p → LamX.TabB base mg (He.cT K p).1 (He.cT K p).2) (A : All P w K mg base WF n) : FnOk P w K mg base (L2.CX P w) (3 * (n + 1) + 1) (He.fAd K ("_law_is_listed_right", none)) (fdOf K ("_law_is_listed_right", none)) ["hand"] (spF (Yw K) (callD tb WF (n + 1) 26)) := by
  have sc := sc__law_is_listed_right
  rw [callD_succ (fn := fn__law_is_listed_right) rfl]
  refine fn_ok (k := 3 * (n + 1)) (U := ⟨WF, callD tb WF n, mdOf tb⟩) F.d__law_is_listed_right sc rfl rfl fun cdv A0 outer s0 H0 E hr3 hcd => ?_
  have hr1 : Room (3 * n + 1) _ := hr3.mono (by omega)
  exact (ss_cons (st_asg (s_callD A.f__law_prime_pair F.g__law_prime_pair hr1 (takes_of rfl rfl rfl rfl) (a_cons x_pk (a_cons (x_e s_int) a_nil))) (g_tp rfl rfl sc.nd (.cons nmi (.cons nmi .nil)))) (ss_cons (st_for (passes_of rfl) rfl (i_rng2 F.v_range (a_cons (x_e (b_sub (x_e s_int) (x_e s_int))) (a_cons (x_e (b_add rfl (x_e (b_mul (x_e (b_mul (x_e s_int) x_pk)) x_pk)) (x_e s_int))) a_nil))) (g_nm sc.nd nmi) (ss_cons (st_asg (s_callD A.f__law_listed F.g__law_listed hr1 (takes_of rfl rfl rfl rfl) (a_cons x_pk (a_cons x_pk (a_cons x_pk a_nil)))) (g_nm sc.nd nmi)) (ss_cons (st_asgLc0 (own := [("x", 7), ("y", 8)]) rfl sc.nd (i_seq rfl (x_e s_var)) (blkOk_by (by rfl)) (fun _ _ _ _ _ => (g_tp rfl rfl sc.nd (.cons nmi (.cons nmi .nil)))) (fun _ _ _ _ _ => (b_add rfl x_pk x_pk))) (ss_cons (st_asg (s_ite (c_t k_gt (x_e (f_len rfl F.v_len x_pk)) (x_e s_int)) (s_lst (a_cons (x_e (s_idx rfl x_pk (x_e s_int))) (a_cons (x_e (f_len rfl F.v_len x_pk)) (a_cons (x_e (f_min rfl F.v_min x_pk)) (a_cons (x_e (f_max rfl rfl F.v_max x_pk)) a_nil))))) (s_lst (a_cons (x_e s_non) (a_cons (x_e s_int) (a_cons (x_e s_non) (a_cons (x_e s_non) a_nil)))))) (g_nm sc.nd nmi)) (ss_cons (st_if (t_not (t_of (s_callD A.f__law_is F.g__law_is hr1 (takes_of rfl rfl rfl rfl) (a_cons (x_e (s_slB rfl (x_e (s_callD A.f__law_told F.g__law_told hr1 (takes_of rfl rfl rfl rfl) (a_cons x_pk (a_cons x_pk (a_cons x_pk a_nil))))) s_int)) (a_cons x_pk a_nil))))) (ss_cons (st_ret s_bl) ss_nil) ss_nil) ss_nil))))) (ss_cons (st_ret s_bl) ss_nil)))
theorem ok__law_are_errors_right (F : Fs K mg) (TB : ∀ (i : Nat) {p : He.Defn}, tf[i]? = some p → LamX.TabB base mg (He.cT K p).1 (He.cT K p).2) (A : All P w K mg base WF n) : FnOk P w K mg base (L2.CX P w) (3 * (n + 1) + 1) (He.fAd K ("_law_are_errors_right", none)) (fdOf K ("_law_are_errors_right", none)) ["hand", "one", "other"] (spF (Yw K) (callD tb WF (n + 1) 27)) := by
  have sc := sc__law_are_errors_right
  rw [callD_succ (fn := fn__law_are_errors_right) rfl]
  refine fn_ok (k := 3 * (n + 1)) (U := ⟨WF, callD tb WF n, mdOf tb⟩) F.d__law_are_errors_right sc rfl rfl fun cdv A0 outer s0 H0 E hr3 hcd => ?_
  have hr1 : Room (3 * n + 1) _ := hr3.mono (by omega)
  exact (ss_cons (st_asg (s_callD A.f__law_some F.g__law_some hr1 (takes_of rfl rfl rfl rfl) (a_cons x_pk (a_cons (x_e (s_lst (a_cons (x_e s_int) (a_cons (x_e (u_neg (x_e s_int))) (a_cons (x_e s_non) (a_cons (x_e s_bl) (a_cons (x_e s_str) (a_cons (x_e (s_tup (a_cons (x_e s_int) a_nil))) (a_cons (x_e (b_add rfl (x_e (b_mul (x_e (b_pow (x_e s_int) (x_e s_int))) (x_e (b_pow (x_e s_int) (x_e s_int))))) (x_e s_int))) (a_cons (x_e (s_lst (a_cons (x_e s_int) a_nil))) (a_cons (x_e s_dnew) a_nil))))))))))) a_nil))) (g_nm sc.nd nmi)) (ss_cons (st_asg (b_add rfl (x_e s_int) (x_e (s_callD A.f__law_draw F.g__law_draw hr1 (takes_of rfl rfl rfl rfl) (a_cons x_pk (a_cons (x_e s_int) a_nil))))) (g_nm sc.nd nmi)) (ss_cons (st_asg (s_lst (a_cons (x_e (s_tup (a_cons (x_e s_var) (a_cons (x_e s_var) a_nil)))) (a_cons (x_e (s_tup (a_cons (x_e s_var) (a_cons (x_e s_var) a_nil)))) (a_cons (x_e (s_tup (a_cons (x_e s_var) (a_cons (x_e s_var) a_nil)))) (a_cons (x_e (s_tup (a_cons (x_e (b_mul x_pk x_pk)) (a_cons (x_e (b_mul x_pk x_pk)) a_nil)))) (a_cons (x_e (s_tup (a_cons (x_e s_var) (a_cons (x_e s_var) a_nil)))) a_nil)))))) (g_nm sc.nd nmi)) (ss_cons (st_asg (s_callD A.f__law_some F.g__law_some hr1 (takes_of rfl rfl rfl rfl) (a_cons x_pk (a_cons x_pk a_nil))) (g_tp rfl rfl sc.nd (.cons nmi (.cons nmi .nil)))) (ss_cons (st_asg (b_mul (x_e (b_mul (x_e (b_mul (x_e (b_mul (x_e (b_pow (x_e s_int) (x_e s_int))) (x_e (b_pow (x_e s_int) (x_e s_int))))) (x_e (b_pow (x_e s_int) (x_e s_int))))) (x_e (b_pow (x_e s_int) (x_e s_int))))) (x_e (b_pow (x_e s_int) (x_e s_int)))) (g_nm sc.nd nmi)) (ss_cons (st_asg (s_callD A.f__law_some F.g__law_some hr1 (takes_of rfl rfl rfl rfl) (a_cons x_pk (a_cons (x_e (s_lst (a_cons (x_e s_non) (a_cons (x_e s_bl) (a_cons (x_e s_str) (a_cons (x_e (s_tup (a_cons (x_e s_int) a_nil))) (a_cons (x_e (s_lst (a_cons (x_e s_int) a_nil))) (a_cons (x_e s_dnew) (a_cons (x_e (b_add rfl x_pk (x_e s_int))) (a_cons (x_e (b_sub (x_e (b_sub (x_e s_int) x_pk)) (x_e s_int))) a_nil)))))))))) a_nil))) (g_nm sc.nd nmi)) (ss_cons (st_for (passes_of rfl) rfl (i_seq rfl (x_e (s_tup (a_cons (x_e (s_fnv (n := 7) F.g_two_pay (.inl ⟨rfl, rfl⟩))) (a_cons (x_e (s_fnv (n := 8) F.g_two_ways (.inr (.inl ⟨rfl, rfl⟩)))) (a_cons (x_e (s_fnv (n := 9) F.g_two_fewest (.inr (.inr (.inl ⟨rfl, rfl⟩))))) (a_cons (x_e (s_fnv (n := 10) F.g_two_most (.inr (.inr (.inr (.inl ⟨rfl, rfl⟩)))))) (a_cons (x_e (s_fnv (n := 11) F.g_two_signed (.inr (.inr (.inr (.inr (.inl ⟨rfl, rfl⟩))))))) a_nil)))))))) (g_nm sc.nd nmi) (ss_cons (st_asg (s_lst (a_cons (x_e (s_lamD (k := 3 * n + 1) (WordOk.of F.d__law_word F.g__law_word) sc__law_word (fun cdv => by cases n with | zero => exact .inl fun _ => rfl | succ n => exact .inr (gives__law_word _ F (hr3.mono (by omega)) n _ cdv _)) (TB tix__law_are_errors_right rfl) hcd (List.mem_iff_getElem?.mpr ⟨tix__law_are_errors_right, rfl⟩) F.nd hr3 (fun A1 outer s H E f c hr => (s_callL (fun f a h => can F A f a h) hr (takes_of rfl rfl rfl rfl) (a_cons x_pk (a_cons x_pk (a_cons x_pk a_nil))))))) (a_cons (x_e (s_lamO (k := 3 * n + 1) (o := "of") (WordOk.of F.d__law_word F.g__law_word) sc__law_word (fun cdv => by cases n with | zero => exact .inl fun _ => rfl | succ n => exact .inr (gives__law_word _ F (hr3.mono (by omega)) n _ cdv _)) (TB tix__law_are_errors_right rfl) hcd (List.mem_iff_getElem?.mpr ⟨tix__law_are_errors_right, rfl⟩) F.nd hr3 (by rfl) (fun _ _ _ _ _ _ _ => ⟨_, rfl, fun _ => rfl⟩) (fun A1 outer s H E f c hr => (s_callL (fun f a h => can F A f a h) hr (takes_of rfl rfl rfl rfl) (a_cons x_pk (a_cons x_pk (a_cons x_pk a_nil))))))) a_nil))) (g_nm sc.nd nmi)) (ss_cons (st_if (c_t (k_ne rfl (u64 hr1.u69)) x_pk (x_e (s_lst (a_cons (x_e (s_tup (a_cons (x_e s_str) (a_cons (x_e (u_neg (x_e s_int))) a_nil)))) (a_cons (x_e s_str) a_nil))))) (ss_cons (st_ret s_bl) ss_nil) ss_nil) ss_nil))) (ss_cons (st_asg (s_lst (a_cons (x_e (s_lamD (k := 3 * n + 1) (WordOk.of F.d__law_word F.g__law_word) sc__law_word (fun cdv => by cases n with | zero => exact .inl fun _ => rfl | succ n => exact .inr (gives__law_word _ F (hr3.mono (by omega)) n _ cdv _)) (TB tix__law_are_errors_right rfl) hcd (List.mem_iff_getElem?.mpr ⟨tix__law_are_errors_right, rfl⟩) F.nd hr3 (fun A1 outer s H E f c hr => (s_callD A.f_two_ways F.g_two_ways hr (takes_of rfl rfl rfl rfl) (a_cons x_pk (a_cons x_pk (a_cons x_pk a_nil))))))) a_nil)) (g_nm sc.nd nmi)) (ss_cons (st_ret (c_e (k_eq rfl (u64 hr1.u69)) (x_e (b_add rfl x_pk (x_e (s_lst (a_cons (x_e (s_lamD (k := 3 * n + 1) (WordOk.of F.d__law_word F.g__law_word) sc__law_word (fun cdv => by cases n with | zero => exact .inl fun _ => rfl | succ n => exact .inr (gives__law_word _ F (hr3.mono (by omega)) n _ cdv _)) (TB tix__law_are_errors_right rfl) hcd (List.mem_iff_getElem?.mpr ⟨tix__law_are_errors_right, rfl⟩) F.nd hr3 (fun A1 outer s H E f c hr => (s_callD A.f_two_pay F.g_two_pay hr (takes_of rfl rfl rfl rfl) (a_cons x_pk (a_cons x_pk (a_cons (x_e (b_sub (x_e s_int) x_pk)) a_nil))))))) a_nil))))) (x_e (b_rep rfl (x_e (s_lst (a_cons (x_e s_str) a_nil))) (x_e s_int))))) ss_nil)))))))))
theorem ok_law (F : Fs K mg) (TB : ∀ (i : Nat) {p : He.Defn}, tf[i]? = some p → LamX.TabB base mg (He.cT K p).1 (He.cT K p).2) (A : All P w K mg base WF n) : FnOk P w K mg base (L2.CX P w) (3 * (n + 1) + 1) (He.fAd K ("law", none)) (fdOf K ("law", none)) ["script"] (spF (Yw K) (callD tb WF (n + 1) 28)) := by
  have sc := sc_law
  rw [callD_succ (fn := fn_law) rfl]
  refine fn_ok (k := 3 * (n + 1)) (U := ⟨WF, callD tb WF n, mdOf tb⟩) F.d_law sc rfl rfl fun cdv A0 outer s0 H0 E hr3 hcd => ?_
  have hr1 : Room (3 * n + 1) _ := hr3.mono (by omega)
  exact (ss_cons (st_asg (s_callD A.f__law_hand F.g__law_hand hr1 (takes_of rfl rfl rfl rfl) (a_cons x_pk a_nil)) (g_nm sc.nd nmi)) (ss_cons (st_if (t_not (t_of (s_callD A.f__law_is F.g__law_is hr1 (takes_of rfl rfl rfl rfl) (a_cons (x_e (s_callD A.f__law_told F.g__law_told hr1 (takes_of rfl rfl rfl rfl) (a_cons (x_e s_int) (a_cons (x_e s_int) (a_cons (x_e s_int) a_nil))))) (a_cons (x_e (s_lst (a_cons (x_e (s_tup (a_cons (x_e s_int) (a_cons (x_e s_int) a_nil)))) (a_cons (x_e s_int) (a_cons (x_e s_int) (a_cons (x_e s_int) (a_cons (x_e (s_tup (a_cons (x_e s_int) (a_cons (x_e s_int) a_nil)))) a_nil))))))) a_nil))))) (ss_cons (st_ret s_bl) ss_nil) ss_nil) (ss_cons (st_if (t_not (t_of (s_callD A.f__law_is F.g__law_is hr1 (takes_of rfl rfl rfl rfl) (a_cons (x_e (s_callD A.f__law_told F.g__law_told hr1 (takes_of rfl rfl rfl rfl) (a_cons (x_e s_int) (a_cons (x_e s_int) (a_cons (x_e s_int) a_nil))))) (a_cons (x_e (s_lst (a_cons (x_e (s_tup (a_cons (x_e s_int) (a_cons (x_e s_int) a_nil)))) (a_cons (x_e s_int) (a_cons (x_e s_int) (a_cons (x_e s_int) (a_cons (x_e (s_tup (a_cons (x_e s_int) (a_cons (x_e s_int) a_nil)))) a_nil))))))) a_nil))))) (ss_cons (st_ret s_bl) ss_nil) ss_nil) (ss_cons (st_if (t_not (t_of (s_callD A.f__law_is_listed_right F.g__law_is_listed_right hr1 (takes_of rfl rfl rfl rfl) (a_cons x_pk a_nil)))) (ss_cons (st_ret s_bl) ss_nil) ss_nil) (ss_cons (st_for (passes_of rfl) rfl (i_seq rfl (x_e (s_tup (a_cons (x_e s_int) (a_cons (x_e s_int) (a_cons (x_e (b_pow (x_e s_int) (x_e s_int))) (a_cons (x_e (b_mul (x_e (b_pow (x_e s_int) (x_e s_int))) (x_e (b_pow (x_e s_int) (x_e s_int))))) a_nil))))))) (g_nm sc.nd nmi) (ss_cons (st_asg (s_callD A.f__law_prime_pair F.g__law_prime_pair hr1 (takes_of rfl rfl rfl rfl) (a_cons x_pk (a_cons x_pk a_nil))) (g_tp rfl rfl sc.nd (.cons nmi (.cons nmi .nil)))) (ss_cons (st_if (c_t (k_eq rfl (u64 hr1.u69)) (x_e (s_callD A.f__law_draw F.g__law_draw hr1 (takes_of rfl rfl rfl rfl) (a_cons x_pk (a_cons (x_e s_int) a_nil)))) (x_e s_int)) (ss_cons (st_asg s_int (g_nm sc.nd nmi)) ss_nil) ss_nil) (ss_cons (st_if (t_pw (w_or (t_not (t_of (s_callD A.f__law_is_right F.g__law_is_right hr1 (takes_of rfl rfl rfl rfl) (a_cons x_pk (a_cons x_pk (a_cons x_pk a_nil)))))) (w_or1 (t_not (t_of (s_callD A.f__law_are_errors_right F.g__law_are_errors_right hr1 (takes_of rfl rfl rfl rfl) (a_cons x_pk (a_cons x_pk (a_cons x_pk a_nil))))))))) (ss_cons (st_ret s_bl) ss_nil) ss_nil) ss_nil)))) (ss_cons (st_ret s_bl) ss_nil))))))
theorem all (F : Fs K mg) (TB : ∀ (i : Nat) {p : He.Defn}, tf[i]? = some p → LamX.TabB base mg (He.cT K p).1 (He.cT K p).2) : ∀ n, All P w K mg base WF n
  | 0 => all0 F
  | n + 1 => by
    have A : All P w K mg base WF n := all F TB n
    exact ⟨ok_is_integer F TB A, ok_common F TB A, ok_check_two F TB A, ok_check_number F TB A, ok_inverse_of F TB A, ok_first_count F TB A, ok_two_pay F TB A, ok_two_ways F TB A, ok_two_fewest F TB A, ok_two_most F TB A, ok_two_signed F TB A, ok__law_hand F TB A, ok__law_draw F TB A, ok__law_some F TB A, ok__law_is F TB A, ok__law_gcd F TB A, ok__law_turned F TB A, ok__law_split F TB A, ok__law_prime_pair F TB A, ok__law_due F TB A, ok__law_told F TB A, ok__law_listed F TB A, ok__law_numbers F TB A, ok__law_is_right F TB A, ok__law_is_listed_right F TB A, ok__law_are_errors_right F TB A, ok_law F TB A⟩
end
/-! ### the head -/
def D_is_integer : He.DefD := ⟨("is_integer", none), "is_integer", "is_integer", defArgs t_is_integer, defBody t_is_integer, defScope t_is_integer, [], []⟩
def D_common : He.DefD := ⟨("common", none), "common", "common", defArgs t_common, defBody t_common, defScope t_common, [], []⟩
def D_check_two : He.DefD := ⟨("check_two", none), "check_two", "check_two", defArgs t_check_two, defBody t_check_two, defScope t_check_two, [], []⟩
def D_check_number : He.DefD := ⟨("check_number", none), "check_number", "check_number", defArgs t_check_number, defBody t_check_number, defScope t_check_number, [], []⟩
def D_inverse_of : He.DefD := ⟨("inverse_of", none), "inverse_of", "inverse_of", defArgs t_inverse_of, defBody t_inverse_of, defScope t_inverse_of, [], []⟩
def D_first_count : He.DefD := ⟨("first_count", none), "first_count", "first_count", defArgs t_first_count, defBody t_first_count, defScope t_first_count, [], []⟩
def D_two_pay : He.DefD := ⟨("two_pay", none), "two_pay", "two_pay", defArgs t_two_pay, defBody t_two_pay, defScope t_two_pay, [], []⟩
def D_two_ways : He.DefD := ⟨("two_ways", none), "two_ways", "two_ways", defArgs t_two_ways, defBody t_two_ways, defScope t_two_ways, [], []⟩
def D_two_fewest : He.DefD := ⟨("two_fewest", none), "two_fewest", "two_fewest", defArgs t_two_fewest, defBody t_two_fewest, defScope t_two_fewest, [], []⟩
def D_two_most : He.DefD := ⟨("two_most", none), "two_most", "two_most", defArgs t_two_most, defBody t_two_most, defScope t_two_most, [], []⟩
def D_two_signed : He.DefD := ⟨("two_signed", none), "two_signed", "two_signed", defArgs t_two_signed, defBody t_two_signed, defScope t_two_signed, [], []⟩
def D__law_hand : He.DefD := ⟨("_law_hand", none), "_law_hand", "_law_hand", defArgs t__law_hand, defBody t__law_hand, defScope t__law_hand, [], []⟩
def D__law_draw : He.DefD := ⟨("_law_draw", none), "_law_draw", "_law_draw", defArgs t__law_draw, defBody t__law_draw, defScope t__law_draw, [], []⟩
def D__law_some : He.DefD := ⟨("_law_some", none), "_law_some", "_law_some", defArgs t__law_some, defBody t__law_some, defScope t__law_some, [], []⟩
def D__law_is : He.DefD := ⟨("_law_is", none), "_law_is", "_law_is", defArgs t__law_is, defBody t__law_is, defScope t__law_is, [], []⟩
def D__law_gcd : He.DefD := ⟨("_law_gcd", none), "_law_gcd", "_law_gcd", defArgs t__law_gcd, defBody t__law_gcd, defScope t__law_gcd, [], []⟩
def D__law_turned : He.DefD := ⟨("_law_turned", none), "_law_turned", "_law_turned", defArgs t__law_turned, defBody t__law_turned, defScope t__law_turned, [], []⟩
def D__law_split : He.DefD := ⟨("_law_split", none), "_law_split", "_law_split", defArgs t__law_split, defBody t__law_split, defScope t__law_split, [], []⟩
def D__law_prime_pair : He.DefD := ⟨("_law_prime_pair", none), "_law_prime_pair", "_law_prime_pair", defArgs t__law_prime_pair, defBody t__law_prime_pair, defScope t__law_prime_pair, [], []⟩
def D__law_word : He.DefD := ⟨("_law_word", none), "_law_word", "_law_word", defArgs t__law_word, defBody t__law_word, defScope t__law_word, [], []⟩
def D__law_due : He.DefD := ⟨("_law_due", none), "_law_due", "_law_due", defArgs t__law_due, defBody t__law_due, defScope t__law_due, [], []⟩
def D__law_told : He.DefD := ⟨("_law_told", none), "_law_told", "_law_told", defArgs t__law_told, defBody t__law_told, defScope t__law_told, [], []⟩
def D__law_listed : He.DefD := ⟨("_law_listed", none), "_law_listed", "_law_listed", defArgs t__law_listed, defBody t__law_listed, defScope t__law_listed, [], []⟩
def D__law_numbers : He.DefD := ⟨("_law_numbers", none), "_law_numbers", "_law_numbers", defArgs t__law_numbers, defBody t__law_numbers, defScope t__law_numbers, [], []⟩
def D__law_is_right : He.DefD := ⟨("_law_is_right", none), "_law_is_right", "_law_is_right", defArgs t__law_is_right, defBody t__law_is_right, defScope t__law_is_right, [], []⟩
def D__law_is_listed_right : He.DefD := ⟨("_law_is_listed_right", none), "_law_is_listed_right", "_law_is_listed_right", defArgs t__law_is_listed_right, defBody t__law_is_listed_right, defScope t__law_is_listed_right, [], []⟩
def D__law_are_errors_right : He.DefD := ⟨("_law_are_errors_right", none), "_law_are_errors_right", "_law_are_errors_right", defArgs t__law_are_errors_right, defBody t__law_are_errors_right, defScope t__law_are_errors_right, [], []⟩
def D_law : He.DefD := ⟨("law", none), "law", "law", defArgs t_law, defBody t_law, defScope t_law, [], []⟩
def D_BadCoins : He.DefD := ⟨("BadCoins", some "__init__"), "__init__", "BadCoins.__init__", defArgs t_BadCoins, defBody t_BadCoins, defScope t_BadCoins, [], []⟩
def fn : List He.DefD := [D_is_integer, D_common, D_check_two, D_check_number, D_inverse_of, D_first_count, D_two_pay, D_two_ways, D_two_fewest, D_two_most, D_two_signed, D__law_hand, D__law_draw, D__law_some, D__law_is, D__law_gcd, D__law_turned, D__law_split, D__law_prime_pair, D__law_word, D__law_due, D__law_told, D__law_listed, D__law_numbers, D__law_is_right, D__law_is_listed_right, D__law_are_errors_right, D_law, D_BadCoins]
def fa : List He.Fa := [.glo "is_integer", .glo "common", .glo "check_two", .glo "check_number", .glo "inverse_of", .glo "first_count", .glo "two_pay", .glo "two_ways", .glo "two_fewest", .glo "two_most", .glo "two_signed", .glo "_law_hand", .glo "_law_draw", .glo "_law_some", .glo "_law_is", .glo "_law_gcd", .glo "_law_turned", .glo "_law_split", .glo "_law_prime_pair", .glo "_law_word", .glo "_law_due", .glo "_law_told", .glo "_law_listed", .glo "_law_numbers", .glo "_law_is_right", .glo "_law_is_listed_right", .glo "_law_are_errors_right", .glo "law", .glo "CoinError", .glo "BadNumber", .glo "BadCoins", .free "isinstance", .free "int", .free "bool", .free "abs", .free "min", .free "max", .free "len", .free "tuple", .free "list", .free "zip", .free "all", .free "str", .free "ValueError", .free "range", .int "MOST_SIZE" 10000000000000000000000000000000000000000000000000000000000000000000000000000000000000000000000000000, .exc "BadNumber"]
def exB (K : PySem.W.Frag) : List Bool := [exnsB K xs, isB K xs (.ref (He.ga K "BadCoins"), [2]), isB K xs (.ref (He.ga K "BadNumber"), [1]), isB K xs (.type "ValueError", [0, 1, 2]), exmB K xs (He.ga K "CoinError", [0, 1, 2]), noatB K xs "at", oexB K (He.ga K "BadCoins"), decide (PySem.W.findIn K (.ref (He.ga K "BadCoins")) "__init__" = some (some (.ref (He.fAd K ("BadCoins", some "__init__"))))), decide (PySem.W.typeIn K (.ref (He.fAd K ("BadCoins", some "__init__"))) = some (.type "function")), decide (PySem.W.findIn K (.ref (He.ga K "BadCoins")) "at" = some none), decide (((tT K).map (·.1)).Nodup)]
def exAll (K : PySem.W.Frag) : Bool := (exB K).all id
theorem exB_at {K : PySem.W.Frag} (h : exAll K = true) (i : Nat) {b : Bool} (e : (exB K)[i]? = some b) : b = true := List.all_eq_true.mp h b (List.mem_of_getElem? e)
theorem fs_of {w : World} {h : Heap} {K : PySem.W.Frag} {mg : Str → Option Value} (X : K.In h) (Gm : h.Ns mainGlobals mg) (c : He.SaysX fa fn [] tf exAll w h K) : Fs K mg := by
  have c1 := c.t.d
  have d_is_integer : FunD K "is_integer" "is_integer" (defArgs t_is_integer) (defBody t_is_integer) (defScope t_is_integer) [] [] (He.fAd K ("is_integer", none)) (fdOf K ("is_integer", none)) := by obtain ⟨fd, h⟩ := c1.def_ 0 (d := D_is_integer) rfl; exact fdOf_is h
  have d_common : FunD K "common" "common" (defArgs t_common) (defBody t_common) (defScope t_common) [] [] (He.fAd K ("common", none)) (fdOf K ("common", none)) := by obtain ⟨fd, h⟩ := c1.def_ 1 (d := D_common) rfl; exact fdOf_is h
  have d_check_two : FunD K "check_two" "check_two" (defArgs t_check_two) (defBody t_check_two) (defScope t_check_two) [] [] (He.fAd K ("check_two", none)) (fdOf K ("check_two", none)) := by obtain ⟨fd, h⟩ := c1.def_ 2 (d := D_check_two) rfl; exact fdOf_is h
  have d_check_number : FunD K "check_number" "check_number" (defArgs t_check_number) (defBody t_check_number) (defScope t_check_number) [] [] (He.fAd K ("check_number", none)) (fdOf K ("check_number", none)) := by obtain ⟨fd, h⟩ := c1.def_ 3 (d := D_check_number) rfl; exact fdOf_is h
  have d_inverse_of : FunD K "inverse_of" "inverse_of" (defArgs t_inverse_of) (defBody t_inverse_of) (defScope t_inverse_of) [] [] (He.fAd K ("inverse_of", none)) (fdOf K ("inverse_of", none)) := by obtain ⟨fd, h⟩ := c1.def_ 4 (d := D_inverse_of) rfl; exact fdOf_is h
  have d_first_count : FunD K "first_count" "first_count" (defArgs t_first_count) (defBody t_first_count) (defScope t_first_count) [] [] (He.fAd K ("first_count", none)) (fdOf K ("first_count", none)) := by obtain ⟨fd, h⟩ := c1.def_ 5 (d := D_first_count) rfl; exact fdOf_is h
  have d_two_pay : FunD K "two_pay" "two_pay" (defArgs t_two_pay) (defBody t_two_pay) (defScope t_two_pay) [] [] (He.fAd K ("two_pay", none)) (fdOf K ("two_pay", none)) := by obtain ⟨fd, h⟩ := c1.def_ 6 (d := D_two_pay) rfl; exact fdOf_is h
  have d_two_ways : FunD K "two_ways" "two_ways" (defArgs t_two_ways) (defBody t_two_ways) (defScope t_two_ways) [] [] (He.fAd K ("two_ways", none)) (fdOf K ("two_ways", none)) := by obtain ⟨fd, h⟩ := c1.def_ 7 (d := D_two_ways) rfl; exact fdOf_is h
  have d_two_fewest : FunD K "two_fewest" "two_fewest" (defArgs t_two_fewest) (defBody t_two_fewest) (defScope t_two_fewest) [] [] (He.fAd K ("two_fewest", none)) (fdOf K ("two_fewest", none)) := by obtain ⟨fd, h⟩ := c1.def_ 8 (d := D_two_fewest) rfl; exact fdOf_is h
  have d_two_most : FunD K "two_most" "two_most" (defArgs t_two_most) (defBody t_two_most) (defScope t_two_most) [] [] (He.fAd K ("two_most", none)) (fdOf K ("two_most", none)) := by obtain ⟨fd, h⟩ := c1.def_ 9 (d := D_two_most) rfl; exact fdOf_is h
  have d_two_signed : FunD K "two_signed" "two_signed" (defArgs t_two_signed) (defBody t_two_signed) (defScope t_two_signed) [] [] (He.fAd K ("two_signed", none)) (fdOf K ("two_signed", none)) := by obtain ⟨fd, h⟩ := c1.def_ 10 (d := D_two_signed) rfl; exact fdOf_is h
  have d__law_hand : FunD K "_law_hand" "_law_hand" (defArgs t__law_hand) (defBody t__law_hand) (defScope t__law_hand) [] [] (He.fAd K ("_law_hand", none)) (fdOf K ("_law_hand", none)) := by obtain ⟨fd, h⟩ := c1.def_ 11 (d := D__law_hand) rfl; exact fdOf_is h
  have d__law_draw : FunD K "_law_draw" "_law_draw" (defArgs t__law_draw) (defBody t__law_draw) (defScope t__law_draw) [] [] (He.fAd K ("_law_draw", none)) (fdOf K ("_law_draw", none)) := by obtain ⟨fd, h⟩ := c1.def_ 12 (d := D__law_draw) rfl; exact fdOf_is h
  have d__law_some : FunD K "_law_some" "_law_some" (defArgs t__law_some) (defBody t__law_some) (defScope t__law_some) [] [] (He.fAd K ("_law_some", none)) (fdOf K ("_law_some", none)) := by obtain ⟨fd, h⟩ := c1.def_ 13 (d := D__law_some) rfl; exact fdOf_is h
  have d__law_is : FunD K "_law_is" "_law_is" (defArgs t__law_is) (defBody t__law_is) (defScope t__law_is) [] [] (He.fAd K ("_law_is", none)) (fdOf K ("_law_is", none)) := by obtain ⟨fd, h⟩ := c1.def_ 14 (d := D__law_is) rfl; exact fdOf_is h
  have d__law_gcd : FunD K "_law_gcd" "_law_gcd" (defArgs t__law_gcd) (defBody t__law_gcd) (defScope t__law_gcd) [] [] (He.fAd K ("_law_gcd", none)) (fdOf K ("_law_gcd", none)) := by obtain ⟨fd, h⟩ := c1.def_ 15 (d := D__law_gcd) rfl; exact fdOf_is h
  have d__law_turned : FunD K "_law_turned" "_law_turned" (defArgs t__law_turned) (defBody t__law_turned) (defScope t__law_turned) [] [] (He.fAd K ("_law_turned", none)) (fdOf K ("_law_turned", none)) := by obtain ⟨fd, h⟩ := c1.def_ 16 (d := D__law_turned) rfl; exact fdOf_is h
  have d__law_split : FunD K "_law_split" "_law_split" (defArgs t__law_split) (defBody t__law_split) (defScope t__law_split) [] [] (He.fAd K ("_law_split", none)) (fdOf K ("_law_split", none)) := by obtain ⟨fd, h⟩ := c1.def_ 17 (d := D__law_split) rfl; exact fdOf_is h
  have d__law_prime_pair : FunD K "_law_prime_pair" "_law_prime_pair" (defArgs t__law_prime_pair) (defBody t__law_prime_pair) (defScope t__law_prime_pair) [] [] (He.fAd K ("_law_prime_pair", none)) (fdOf K ("_law_prime_pair", none)) := by obtain ⟨fd, h⟩ := c1.def_ 18 (d := D__law_prime_pair) rfl; exact fdOf_is h
  have d__law_word : FunD K "_law_word" "_law_word" (defArgs t__law_word) (defBody t__law_word) (defScope t__law_word) [] [] (He.fAd K ("_law_word", none)) (fdOf K ("_law_word", none)) := by obtain ⟨fd, h⟩ := c1.def_ 19 (d := D__law_word) rfl; exact fdOf_is h
  have d__law_due : FunD K "_law_due" "_law_due" (defArgs t__law_due) (defBody t__law_due) (defScope t__law_due) [] [] (He.fAd K ("_law_due", none)) (fdOf K ("_law_due", none)) := by obtain ⟨fd, h⟩ := c1.def_ 20 (d := D__law_due) rfl; exact fdOf_is h
  have d__law_told : FunD K "_law_told" "_law_told" (defArgs t__law_told) (defBody t__law_told) (defScope t__law_told) [] [] (He.fAd K ("_law_told", none)) (fdOf K ("_law_told", none)) := by obtain ⟨fd, h⟩ := c1.def_ 21 (d := D__law_told) rfl; exact fdOf_is h
  have d__law_listed : FunD K "_law_listed" "_law_listed" (defArgs t__law_listed) (defBody t__law_listed) (defScope t__law_listed) [] [] (He.fAd K ("_law_listed", none)) (fdOf K ("_law_listed", none)) := by obtain ⟨fd, h⟩ := c1.def_ 22 (d := D__law_listed) rfl; exact fdOf_is h
  have d__law_numbers : FunD K "_law_numbers" "_law_numbers" (defArgs t__law_numbers) (defBody t__law_numbers) (defScope t__law_numbers) [] [] (He.fAd K ("_law_numbers", none)) (fdOf K ("_law_numbers", none)) := by obtain ⟨fd, h⟩ := c1.def_ 23 (d := D__law_numbers) rfl; exact fdOf_is h
  have d__law_is_right : FunD K "_law_is_right" "_law_is_right" (defArgs t__law_is_right) (defBody t__law_is_right) (defScope t__law_is_right) [] [] (He.fAd K ("_law_is_right", none)) (fdOf K ("_law_is_right", none)) := by obtain ⟨fd, h⟩ := c1.def_ 24 (d := D__law_is_right) rfl; exact fdOf_is h
  have d__law_is_listed_right : FunD K "_law_is_listed_right" "_law_is_listed_right" (defArgs t__law_is_listed_right) (defBody t__law_is_listed_right) (defScope t__law_is_listed_right) [] [] (He.fAd K ("_law_is_listed_right", none)) (fdOf K ("_law_is_listed_right", none)) := by obtain ⟨fd, h⟩ := c1.def_ 25 (d := D__law_is_listed_right) rfl; exact fdOf_is h
  have d__law_are_errors_right : FunD K "_law_are_errors_right" "_law_are_errors_right" (defArgs t__law_are_errors_right) (defBody t__law_are_errors_right) (defScope t__law_are_errors_right) [] [] (He.fAd K ("_law_are_errors_right", none)) (fdOf K ("_law_are_errors_right", none)) := by obtain ⟨fd, h⟩ := c1.def_ 26 (d := D__law_are_errors_right) rfl; exact fdOf_is h
  have d_law : FunD K "law" "law" (defArgs t_law) (defBody t_law) (defScope t_law) [] [] (He.fAd K ("law", none)) (fdOf K ("law", none)) := by obtain ⟨fd, h⟩ := c1.def_ 27 (d := D_law) rfl; exact fdOf_is h
  have d_BadCoins : FunD K "__init__" "BadCoins.__init__" (defArgs t_BadCoins) (defBody t_BadCoins) (defScope t_BadCoins) [] [] (He.fAd K ("BadCoins", some "__init__")) (fdOf K ("BadCoins", some "__init__")) := by obtain ⟨fd, h⟩ := c1.def_ 28 (d := D_BadCoins) rfl; exact fdOf_is h
  exact ⟨d_is_integer,
    d_common,
    d_check_two,
    d_check_number,
    d_inverse_of,
    d_first_count,
    d_two_pay,
    d_two_ways,
    d_two_fewest,
    d_two_most,
    d_two_signed,
    d__law_hand,
    d__law_draw,
    d__law_some,
    d__law_is,
    d__law_gcd,
    d__law_turned,
    d__law_split,
    d__law_prime_pair,
    d__law_word,
    d__law_due,
    d__law_told,
    d__law_listed,
    d__law_numbers,
    d__law_is_right,
    d__law_is_listed_right,
    d__law_are_errors_right,
    d_law,
    ⟨He.glo_ok X Gm (c1.fact 0 (f := .glo "is_integer") rfl), d_is_integer.kp, d_is_integer.bindsN (fun _ _ _ _ _ _ us hl => match us, hl with | [_], _ => rfl)⟩,
    ⟨He.glo_ok X Gm (c1.fact 1 (f := .glo "common") rfl), d_common.kp, d_common.bindsN (fun _ _ _ _ _ _ us hl => match us, hl with | [_, _], _ => rfl)⟩,
    ⟨He.glo_ok X Gm (c1.fact 2 (f := .glo "check_two") rfl), d_check_two.kp, d_check_two.bindsN (fun _ _ _ _ _ _ us hl => match us, hl with | [_, _], _ => rfl)⟩,
    ⟨He.glo_ok X Gm (c1.fact 3 (f := .glo "check_number") rfl), d_check_number.kp, d_check_number.bindsN (fun _ _ _ _ _ _ us hl => match us, hl with | [_], _ => rfl)⟩,
    ⟨He.glo_ok X Gm (c1.fact 4 (f := .glo "inverse_of") rfl), d_inverse_of.kp, d_inverse_of.bindsN (fun _ _ _ _ _ _ us hl => match us, hl with | [_, _], _ => rfl)⟩,
    ⟨He.glo_ok X Gm (c1.fact 5 (f := .glo "first_count") rfl), d_first_count.kp, d_first_count.bindsN (fun _ _ _ _ _ _ us hl => match us, hl with | [_, _, _], _ => rfl)⟩,
    ⟨He.glo_ok X Gm (c1.fact 6 (f := .glo "two_pay") rfl), d_two_pay.kp, d_two_pay.bindsN (fun _ _ _ _ _ _ us hl => match us, hl with | [_, _, _], _ => rfl)⟩,
    ⟨He.glo_ok X Gm (c1.fact 7 (f := .glo "two_ways") rfl), d_two_ways.kp, d_two_ways.bindsN (fun _ _ _ _ _ _ us hl => match us, hl with | [_, _, _], _ => rfl)⟩,
    ⟨He.glo_ok X Gm (c1.fact 8 (f := .glo "two_fewest") rfl), d_two_fewest.kp, d_two_fewest.bindsN (fun _ _ _ _ _ _ us hl => match us, hl with | [_, _, _], _ => rfl)⟩,
    ⟨He.glo_ok X Gm (c1.fact 9 (f := .glo "two_most") rfl), d_two_most.kp, d_two_most.bindsN (fun _ _ _ _ _ _ us hl => match us, hl with | [_, _, _], _ => rfl)⟩,
    ⟨He.glo_ok X Gm (c1.fact 10 (f := .glo "two_signed") rfl), d_two_signed.kp, d_two_signed.bindsN (fun _ _ _ _ _ _ us hl => match us, hl with | [_, _, _], _ => rfl)⟩,
    ⟨He.glo_ok X Gm (c1.fact 11 (f := .glo "_law_hand") rfl), d__law_hand.kp, d__law_hand.bindsN (fun _ _ _ _ _ _ us hl => match us, hl with | [_], _ => rfl)⟩,
    ⟨He.glo_ok X Gm (c1.fact 12 (f := .glo "_law_draw") rfl), d__law_draw.kp, d__law_draw.bindsN (fun _ _ _ _ _ _ us hl => match us, hl with | [_, _], _ => rfl)⟩,
    ⟨He.glo_ok X Gm (c1.fact 13 (f := .glo "_law_some") rfl), d__law_some.kp, d__law_some.bindsN (fun _ _ _ _ _ _ us hl => match us, hl with | [_, _], _ => rfl)⟩,
    ⟨He.glo_ok X Gm (c1.fact 14 (f := .glo "_law_is") rfl), d__law_is.kp, d__law_is.bindsN (fun _ _ _ _ _ _ us hl => match us, hl with | [_, _], _ => rfl)⟩,
    ⟨He.glo_ok X Gm (c1.fact 15 (f := .glo "_law_gcd") rfl), d__law_gcd.kp, d__law_gcd.bindsN (fun _ _ _ _ _ _ us hl => match us, hl with | [_, _], _ => rfl)⟩,
    ⟨He.glo_ok X Gm (c1.fact 16 (f := .glo "_law_turned") rfl), d__law_turned.kp, d__law_turned.bindsN (fun _ _ _ _ _ _ us hl => match us, hl with | [_, _], _ => rfl)⟩,
    ⟨He.glo_ok X Gm (c1.fact 17 (f := .glo "_law_split") rfl), d__law_split.kp, d__law_split.bindsN (fun _ _ _ _ _ _ us hl => match us, hl with | [_, _, _], _ => rfl)⟩,
    ⟨He.glo_ok X Gm (c1.fact 18 (f := .glo "_law_prime_pair") rfl), d__law_prime_pair.kp, d__law_prime_pair.bindsN (fun _ _ _ _ _ _ us hl => match us, hl with | [_, _], _ => rfl)⟩,
    ⟨He.glo_ok X Gm (c1.fact 19 (f := .glo "_law_word") rfl), d__law_word.kp, d__law_word.bindsN (fun _ _ _ _ _ _ us hl => match us, hl with | [_], _ => rfl)⟩,
    ⟨He.glo_ok X Gm (c1.fact 20 (f := .glo "_law_due") rfl), d__law_due.kp, d__law_due.bindsN (fun _ _ _ _ _ _ us hl => match us, hl with | [_, _, _], _ => rfl)⟩,
    ⟨He.glo_ok X Gm (c1.fact 21 (f := .glo "_law_told") rfl), d__law_told.kp, d__law_told.bindsN (fun _ _ _ _ _ _ us hl => match us, hl with | [_, _, _], _ => rfl)⟩,
    ⟨He.glo_ok X Gm (c1.fact 22 (f := .glo "_law_listed") rfl), d__law_listed.kp, d__law_listed.bindsN (fun _ _ _ _ _ _ us hl => match us, hl with | [_, _, _], _ => rfl)⟩,
    ⟨He.glo_ok X Gm (c1.fact 23 (f := .glo "_law_numbers") rfl), d__law_numbers.kp, d__law_numbers.bindsN (fun _ _ _ _ _ _ us hl => match us, hl with | [_, _, _], _ => rfl)⟩,
    ⟨He.glo_ok X Gm (c1.fact 24 (f := .glo "_law_is_right") rfl), d__law_is_right.kp, d__law_is_right.bindsN (fun _ _ _ _ _ _ us hl => match us, hl with | [_, _, _], _ => rfl)⟩,
    ⟨He.glo_ok X Gm (c1.fact 25 (f := .glo "_law_is_listed_right") rfl), d__law_is_listed_right.kp, d__law_is_listed_right.bindsN (fun _ _ _ _ _ _ us hl => match us, hl with | [_], _ => rfl)⟩,
    ⟨He.glo_ok X Gm (c1.fact 26 (f := .glo "_law_are_errors_right") rfl), d__law_are_errors_right.kp, d__law_are_errors_right.bindsN (fun _ _ _ _ _ _ us hl => match us, hl with | [_, _, _], _ => rfl)⟩,
    ⟨He.glo_ok X Gm (c1.fact 27 (f := .glo "law") rfl), d_law.kp, d_law.bindsN (fun _ _ _ _ _ _ us hl => match us, hl with | [_], _ => rfl)⟩,
    d_BadCoins,
    He.glo_ok X Gm (c1.fact 28 (f := .glo "CoinError") rfl),
    He.glo_ok X Gm (c1.fact 29 (f := .glo "BadNumber") rfl),
    He.glo_ok X Gm (c1.fact 30 (f := .glo "BadCoins") rfl),
    He.free_ok X Gm (c1.fact 31 (f := .free "isinstance") rfl),
    He.free_ok X Gm (c1.fact 32 (f := .free "int") rfl),
    He.free_ok X Gm (c1.fact 33 (f := .free "bool") rfl),
    He.free_ok X Gm (c1.fact 34 (f := .free "abs") rfl),
    He.free_ok X Gm (c1.fact 35 (f := .free "min") rfl),
    He.free_ok X Gm (c1.fact 36 (f := .free "max") rfl),
    He.free_ok X Gm (c1.fact 37 (f := .free "len") rfl),
    He.free_ok X Gm (c1.fact 38 (f := .free "tuple") rfl),
    He.free_ok X Gm (c1.fact 39 (f := .free "list") rfl),
    He.free_ok X Gm (c1.fact 40 (f := .free "zip") rfl),
    He.free_ok X Gm (c1.fact 41 (f := .free "all") rfl),
    He.free_ok X Gm (c1.fact 42 (f := .free "str") rfl),
    He.free_ok X Gm (c1.fact 43 (f := .free "ValueError") rfl),
    He.free_ok X Gm (c1.fact 44 (f := .free "range") rfl),
    He.int_ok X Gm (c1.fact 45 (f := .int "MOST_SIZE" 10000000000000000000000000000000000000000000000000000000000000000000000000000000000000000000000000000) rfl),
    ⟨fun _ hc => (exnsB_ok (exB_at c.more 0 rfl) hc).1, fun _ hc => (exnsB_ok (exB_at c.more 0 rfl) hc).2⟩,
    exB_at c.more 1 rfl,
    exB_at c.more 2 rfl,
    exB_at c.more 3 rfl,
    exB_at c.more 4 rfl,
    exB_at c.more 5 rfl,
    c1.fact 46 (f := .exc "BadNumber") rfl,
    ⟨exB_at c.more 6 rfl, of_decide_eq_true (exB_at c.more 7 rfl), of_decide_eq_true (exB_at c.more 8 rfl), of_decide_eq_true (exB_at c.more 9 rfl)⟩,
    of_decide_eq_true (exB_at c.more 10 rfl)⟩
abbrev R : PySem.W.OpenRow := PySem.W.OpenLaw.row PySem.Challenge.rw_paidornot_k58_whole_two_coins_ways
abbrev hk : PySem.W.Hook := He.hookX 5 fa fn [] tf exAll
def ob (s : PySem.W.SharedT) : He.AlX := He.obsX 5 fa fn [] tf exAll (HandSHeadRun.getT s)
theorem ob_eq (s : PySem.W.SharedT) : ob s = hk.obs s.abs := He.obsX_eq (HandSHeadRun.getT_eq s)
def looseN : List PySem.Str := [("is_integer" : PySem.Str), ("common" : PySem.Str), ("CoinError" : PySem.Str), ("BadNumber" : PySem.Str), ("BadCoins" : PySem.Str), ("MOST_SIZE" : PySem.Str), ("check_two" : PySem.Str), ("check_number" : PySem.Str), ("inverse_of" : PySem.Str), ("first_count" : PySem.Str), ("two_pay" : PySem.Str), ("two_ways" : PySem.Str), ("two_fewest" : PySem.Str), ("two_most" : PySem.Str), ("two_signed" : PySem.Str), ("_law_hand" : PySem.Str), ("_law_draw" : PySem.Str), ("_law_some" : PySem.Str), ("_law_is" : PySem.Str), ("_law_gcd" : PySem.Str), ("_law_turned" : PySem.Str), ("_law_split" : PySem.Str), ("_law_prime_pair" : PySem.Str), ("_law_word" : PySem.Str), ("_law_due" : PySem.Str), ("_law_told" : PySem.Str), ("_law_listed" : PySem.Str), ("_law_numbers" : PySem.Str), ("_law_is_right" : PySem.Str), ("_law_is_listed_right" : PySem.Str), ("_law_are_errors_right" : PySem.Str)]
theorem run (w : World) : HandSHeadRun.RunEq R (PySem.W.view R.prog [35]) hk ob 4000 looseN w := by
  intro os
  kernel_rfl
theorem law_at (N : Nat) (WF : Nat) (hlaw : ∀ ns : List Int, ns.length ≤ 63 → ∃ outs, callD tb WF N 28 [(false, .fls (ns.map D.int))] = .ok (.bl true) false outs) (w : World) (mg : Str → Option Value) (fa0 : Addr) (h : Heap) (Yh : hk.says w h) (Gm : h.Ns mainGlobals mg) (hfa : mg ("law" : Str) = some (.ref fa0)) :
    ∃ K : PySem.W.Frag, K.In h ∧ LamX.LawAtS PySem.Challenge.rw_paidornot_k58_whole_two_coins_ways w K (L2.CX PySem.Challenge.rw_paidornot_k58_whole_two_coins_ways.prog w) (3 * N + 1) 63 "script" mg fa0 h := by
  obtain ⟨K, KX, c⟩ := Yh
  have F := fs_of KX Gm c
  have e := hfa.symm.trans F.g_law.hm
  cases e
  refine ⟨K, KX, fdOf K ("law", none), tf.map (He.cT K), spF (Yw K) (callD tb WF N 28), fun p hp => ?_, fun p hp => ?_, fun p hp => ?_, fun s u => ?_, fun H a ns hl _ hT hS => ?_, fun base _ _ TB => ?_⟩
  · obtain ⟨q, hq, rfl⟩ := List.mem_map.mp hp; exact c.empty q hq
  · obtain ⟨q, hq, rfl⟩ := List.mem_map.mp hp; exact c.out q hq
  · obtain ⟨q, hq, rfl⟩ := List.mem_map.mp hp; exact PySem.W.codeHd_of_K KX (c.hd q hq)
  · exact F.d_law.bindsA (ps := ["script"]) (fun _ _ _ _ _ _ us hl => match us, hl with | [_], _ => rfl) s [u] rfl
  · obtain ⟨outs, ho⟩ := hlaw ns hl
    refine law_sp ho hS fun p hp => LamX.TabS.nil ?_
    have : p.1 ∈ (tf.map (He.cT K)).map (·.2) := by
      have h2 : (tT K).map (·.1) = (tf.map (He.cT K)).map (·.2) := rfl
      rw [← h2]; exact List.mem_map.mpr ⟨p, hp, rfl⟩
    obtain ⟨q, hq, e⟩ := List.mem_map.mp this
    rw [← e]; exact hT q hq
  · exact (all F (fun i {p} hp => TB (He.cT K p) (List.mem_map.mpr ⟨p, List.mem_of_getElem? hp, rfl⟩)) N).f_law
/-- the law, from the plain law -/
theorem from_plain (N : Nat) (WF : Nat) (hN : N ≤ 70) (hlaw : ∀ ns : List Int, ns.length ≤ 63 → ∃ outs, callD tb WF N 28 [(false, .fls (ns.map D.int))] = .ok (.bl true) false outs) : PySem.Challenge.rw_paidornot_k58_whole_two_coins_ways.Holds := by
  w_on; o_law
  refine HandSHeadRun.head_any (r := R) (q := PySem.W.view R.prog [35]) (H := hk) (ob := ob) (M := 4000) (loose := looseN) (d := HandSHeadRun.topDef R.prog 35) (kwd := []) ob_eq
    (by kernel_rfl) (fun s => by kernel_rfl) run (by kernel_rfl) (by kernel_rfl) (by kernel_rfl) (by rfl) (by first | assumption | decide +kernel) (by decide +kernel) ⟨rfl, rfl, rfl, rfl, rfl, by decide +kernel⟩ ?hw ?hc
  case hw => w_witness2
  case hc =>
    refine LamX.walk_ofTsE (l := PySem.Challenge.rw_paidornot_k58_whole_two_coins_ways) (n := 63) (k := 3 * N + 1) (x := "script") (CX := fun w => L2.CX PySem.Challenge.rw_paidornot_k58_whole_two_coins_ways.prog w) rfl (by decide) (by kernel_rfl) ⟨rfl, by have h1 : callerA.depth ≤ 301 := (by decide); have h2 : 1000 ≤ recursionLimit := (by decide); omega, by have h1 : callerA.units ≤ 100 := (by decide); have h2 : 9900 ≤ cLine := (by decide); omega⟩ ?F fun _ _ _ _ _ z => by
      obtain ⟨_, _, _, _, _, _, _, _, _, _, _, _, q⟩ := z; exact q.elim
    intro w mg fa0 h Yh Gm hmg
    have hmg2 : mg ("law" : PySem.Str) = some (.ref fa0) := by
      have e : (HandSHeadRun.topDef R.prog 35).name = ("law" : PySem.Str) := by kernel_rfl
      rw [← e]; exact hmg
    exact law_at N WF hlaw w mg fa0 h Yh Gm hmg2
end Law

/-! L3R: the evaluator's runs in plain Lean. -/
namespace L3
open PySem PySem.Spec PyProof.Rows L2
section
variable {w : Nat} {C : Nat → List (Bool × D) → CRes} {md : Nat → List Bool} {en en' : En}
/-- e tells d and changes nothing -/
def Pe (C : Nat → List (Bool × D) → CRes) (md : Nat → List Bool) (en : En) (e : E) (d : D) (own : Bool) : Prop := evE C md e en = .ok (d, own) en
/-- e as an argument -/
def Pa (C : Nat → List (Bool × D) → CRes) (md : Nat → List Bool) (en : En) (e : E) (d : D) : Prop := ∃ x, argOf e (evE C md e en) en = .ok x en ∧ avD en x = some d
/-- e as an argument that is kept -/
def Pk' (C : Nat → List (Bool × D) → CRes) (md : Nat → List Bool) (en : En) (e : E) (d : D) : Prop := argOf e (evE C md e en) en = .ok (.v d) en
theorem Pe.k {e : E} {d : D} {own : Bool} (h : Pe C md en e d own) (hn : ∀ i, e ≠ .pk i) : Pk' C md en e d := by
  unfold Pk'
  have h : evE C md e en = .ok (d, own) en := h
  rw [h]
  cases e <;> first | rfl | exact absurd rfl (hn _)
theorem Pk'.a {e : E} {d : D} (h : Pk' C md en e d) : Pa C md en e d := ⟨.v d, h, rfl⟩
theorem Pe.a {e : E} {d : D} {own : Bool} (h : Pe C md en e d own) (hn : ∀ i, e ≠ .pk i := by intro i z; cases z) : Pa C md en e d := (h.k hn).a
theorem pa_pk {i : Nat} {ow : Ow} {d : D} (h : en[i]? = some (some (ow, d))) : Pa C md en (.pk i) d := by
  refine ⟨.p i, ?_, ?_⟩
  · show (match en[i]? with | some (some _) => Rs.ok (Av.p i) en | _ => .bad) = _
    rw [h]
  · show (match en[i]? with | some (some (_, d)) => some d | _ => none) = _
    rw [h]
theorem pe_cst {d : D} : Pe C md en (.cst d) d false := by unfold Pe; rw [evE]
theorem pe_glb {d : D} : Pe C md en (.op (.glb d) .nil) d false := by unfold Pe; rw [evE, evA]; rfl
theorem pe_var {i : Nat} {d : D} (h : en[i]? = some (some (.sh, d))) : Pe C md en (.var i) d false := by
  unfold Pe; rw [evE, rdVar, h]
theorem pe_op1 {o : Op} {a : E} {d : D} {p : D × Bool} (ha : Pa C md en a d) (hr : o.run [d] = some p) (hk : o.keeps = false := by rfl) : Pe C md en (.op o (.cons a .nil)) p.1 p.2 := by
  obtain ⟨x, h1, h2⟩ := ha
  unfold Pe
  rw [evE_op1, h1]
  show opFin o [x] en = _
  unfold opFin
  rw [hk]
  show (match avDs en [x] with | none => Rs.bad | some ds => _) = _
  simp only [avDs, h2, hr]
theorem pe_op2 {o : Op} {a b : E} {d e : D} {p : D × Bool} (ha : Pa C md en a d) (hb : Pa C md en b e) (hr : o.run [d, e] = some p) (hk : o.keeps = false := by rfl) : Pe C md en (.op o (.cons a (.cons b .nil))) p.1 p.2 := by
  obtain ⟨x, h1, h2⟩ := ha
  obtain ⟨y, h3, h4⟩ := hb
  unfold Pe
  rw [evE_op2, h1]
  show (argOf b (evE C md b en) en).bind _ = _
  rw [h3]
  show opFin o [x, y] en = _
  unfold opFin
  rw [hk]
  show (match avDs en [x, y] with | none => Rs.bad | some ds => _) = _
  simp only [avDs, h2, h4, hr]
theorem toB_pe {e : E} {b : Bool} {own : Bool} (h : Pe C md en e (.bl b) own) : toB (evE C md e en) = .ok b en := by
  have h : evE C md e en = .ok (.bl b, own) en := h
  rw [h]; rfl
theorem pe_and {a b : E} {k : Bool} {o : Bool} {d : D} {own : Bool} (ha : Pe C md en a (.bl k) o) (ht : k = true → Pe C md en b d own) (hf : k = false → d = .bl false ∧ own = false) : Pe C md en (.and a b) d own := by
  unfold Pe
  rw [evE, toB_pe ha]
  cases k with
  | true => exact ht rfl
  | false => obtain ⟨rfl, rfl⟩ := hf rfl; rfl
theorem pe_or {a b : E} {k : Bool} {o : Bool} {d : D} {own : Bool} (ha : Pe C md en a (.bl k) o) (hf : k = false → Pe C md en b d own) (ht : k = true → d = .bl true ∧ own = false) : Pe C md en (.or a b) d own := by
  unfold Pe
  rw [evE, toB_pe ha]
  cases k with
  | false => exact hf rfl
  | true => obtain ⟨rfl, rfl⟩ := ht rfl; rfl
theorem pe_nt {a : E} {k o : Bool} (ha : Pe C md en a (.bl k) o) : Pe C md en (.nt a) (.bl (!k)) false := by
  unfold Pe
  rw [evE, toB_pe ha]
/-! ### statements -/
def Ps (w : Nat) (C : Nat → List (Bool × D) → CRes) (md : Nat → List Bool) (en : En) (s : S) (en' : En) : Prop := evS w C md s en = .ok .nx en'
theorem ps_asg {i : Nat} {e : E} {d : D} {own : Bool} (h : Pe C md en e d own) (hs : stVar i d own en = some en') : Ps w C md en (.asg (.nm i) e) en' := by
  unfold Ps
  have h : evE C md e en = .ok (d, own) en := h
  rw [evS, h]
  show (stR (stVar i d own en)).bind _ = _
  rw [hs]; rfl
theorem ps_seti {i : Nat} {v ix : E} {ow : Ow} {xs : List D} {d : D} {k : Int} {j : Nat} (hv : Pk' C md en v d) (hi : Pk' C md en ix (.int k)) (he : en[i]? = some (some (ow, .lst xs))) (ho : ow.isOwn = true) (hj : ixN xs.length k = some j) :
    Ps w C md en (.seti i v ix) (en.set i (some (ow, .lst (xs.set j d)))) := by
  unfold Ps
  have hv : argOf v (evE C md v en) en = .ok (.v d) en := hv
  have hi : argOf ix (evE C md ix en) en = .ok (.v (.int k)) en := hi
  have hm : mtAt i en = true := by unfold mtAt; rw [he]; simp [ho, mtPre]
  have hf : mtFin .seti i [.v d, .v (.int k)] en = .ok (.non, false) (en.set i (some (ow, .lst (xs.set j d)))) := by
    unfold mtFin
    simp only [vDs, he, ho, if_true, Mt.run, hj]
  rw [evS, hv]
  show (if mtAt i en = true then _ else _) = _
  rw [if_pos hm, hi]
  show (mtFin .seti i [.v d, .v (.int k)] en).bind _ = _
  rw [hf]
theorem ss_step {s : S} {ss : Ss} (h : Ps w C md en s en') : evSs w C md (.cons s ss) en = evSs w C md ss en' := by
  have h : evS w C md s en = .ok .nx en' := h
  rw [evSs_consU, h]
theorem ss_ret {e : E} {ss : Ss} {d : D} {own : Bool} (h : evE C md e en = .ok (d, own) en') : evSs w C md (.cons (.ret e) ss) en = .ok (.rt d own) en' := by
  rw [evSs_consU, evS, h]
theorem ss_if {c : E} {a b : Ss} {ss : Ss} {k o : Bool} {r : Rs Fl} (hc : Pe C md en c (.bl k) o) (h : evSs w C md (if k then a else b) en = r) : evSs w C md (.cons (.ife c a b) ss) en = r.bind fun fl en => match fl with
    | .nx => evSs w C md ss en | .br => .ok .br en | .ct => .ok .ct en | .rt d o => .ok (.rt d o) en := by
  rw [evSs_consU, evS, toB_pe hc, ← h]
  cases k <;> rfl
theorem ss_nilU : evSs w C md .nil en = .ok .nx en := by rw [evSs]
theorem pe_ix {i : Nat} {ow : Ow} {xs : List D} {k : Int} {x : D} (h0 : en[i]? = some (some (ow, .lst xs))) (hk : atI xs k = some x) : Pe C md en (.op .idx (.cons (.pk i) (.cons (.cst (.int k)) .nil))) x false := by
  have hr : Op.idx.run [.lst xs, .int k] = some (x, false) := by
    show (match atI xs k with | some d => some (d, false) | none => none) = _
    rw [hk]
  exact pe_op2 (pa_pk h0) (pe_cst.a) hr
theorem run_mod {i j : Int} (h : 0 < j) : Op.mod.run [.int i, .int j] = some (.int (i % j), false) := by
  show gd (decide (0 < j)) (.int (i % j), false) = _
  simp [gd, h]
theorem run_fdiv {i j : Int} (h : divOk i j = true) : Op.fdiv.run [.int i, .int j] = some (.int (i / j), false) := by
  show gd (divOk i j) (.int (i / j), false) = _
  simp [gd, h]
theorem run_mul {i j : Int} (h : mulOk i j = true) : Op.mul.run [.int i, .int j] = some (.int (i * j), false) := by
  show gd (mulOk i j) (.int (i * j), false) = _
  simp [gd, h]
theorem run_pow {i j : Int} (h : CPow i j) : Op.pow.run [.int i, .int j] = some (.int (i ^ j.toNat), false) := by
  show gd (decide (CPow i j)) (.int (i ^ j.toNat), false) = _
  rw [decide_eq_true h]; rfl
theorem mul_r {i j : Int} (h : -(2 ^ 64) < j ∧ j < 2 ^ 64) : mulOk i j = true := by
  unfold mulOk
  have : CMul i j := .inr h
  simp [this]
theorem mul_l {i j : Int} (h : -(2 ^ 64) < i ∧ i < 2 ^ 64) : mulOk i j = true := by
  unfold mulOk
  have : CMul i j := .inl h
  simp [this]
theorem div_s {i j : Int} (h : 0 < j ∧ j < 1073741824) : divOk i j = true := by
  unfold divOk
  have : CDiv i j := h
  simp [this]
theorem atI_nat {xs : List D} {j : Nat} {x : D} (h : xs[j]? = some x) : atI xs (j : Int) = some x := by
  have hl := lt_of_get h
  unfold atI ixN
  rw [if_pos (by omega), if_pos (by omega)]
  simpa using h
/-! ### calls -/
theorem evA_nilU : evA C md .nil en = .ok [] en := by rw [evA]
theorem evA_consU {e : E} {es : Es} {en1 en2 : En} {x : Av} {xs : List Av} (h1 : argOf e (evE C md e en) en = .ok x en1) (h2 : evA C md es en1 = .ok xs en2) : evA C md (.cons e es) en = .ok (x :: xs) en2 := by
  rw [evA_cons, h1]
  show (evA C md es en1).bind _ = _
  rw [h2]
theorem evE_callU {f : Nat} {as : Es} {avs : List Av} {en1 en2 : En} {args : List (Bool × D)} {d : D} {own : Bool} {outs : List Cell} (h1 : evA C md as en = .ok avs en1) (h2 : passA (md f) avs [] en1 = some args) (h3 : C f args = .ok d own outs) (h4 : backA avs args outs en1 = some en2) :
    evE C md (.call f as) en = .ok (d, own) en2 := by
  rw [evE, h1]
  show doCall C md f avs en1 = _
  unfold doCall
  rw [h2]
  show (match C f args with | .bad => Rs.bad | .ok d own outs => _ | .er x outs => _) = _
  rw [h3]
  show (match backA avs args outs en1 with | some en => Rs.ok (d, own) en | none => .bad) = _
  rw [h4]
theorem arg_pk {i : Nat} {c : Ow × D} (h : en[i]? = some (some c)) : argOf (.pk i) (evE C md (.pk i) en) en = .ok (.p i) en := by
  show (match en[i]? with | some (some _) => Rs.ok (Av.p i) en | _ => .bad) = _
  rw [h]
theorem arg_e {e : E} {d : D} {own : Bool} {en1 : En} (h : evE C md e en = .ok (d, own) en1) (hn : ∀ i, e ≠ .pk i := by intro i z; cases z) : argOf e (evE C md e en) en = .ok (.v d) en1 := by
  rw [h]
  cases e <;> first | rfl | exact absurd rfl (hn _)
theorem evE_opU {o : Op} {as : Es} {avs : List Av} {en1 : En} {ds : List D} {p : D × Bool} (h1 : evA C md as en = .ok avs en1) (h2 : (if o.keeps then vDs avs else avDs en1 avs) = some ds) (h3 : o.run ds = some p) : evE C md (.op o as) en = .ok p en1 := by
  rw [evE_op, h1]
  show opFin o avs en1 = _
  unfold opFin
  rw [h2]
  show (match o.run ds with | some p => Rs.ok p en1 | none => .bad) = _
  rw [h3]
theorem ps_asgU {i : Nat} {e : E} {d : D} {own : Bool} {en1 : En} (h : evE C md e en = .ok (d, own) en1) (hs : stVar i d own en1 = some en') : Ps w C md en (.asg (.nm i) e) en' := by
  unfold Ps
  rw [evS, h]
  show (stR (stVar i d own en1)).bind _ = _
  rw [hs]; rfl
theorem ps_asgT {is : List Nat} {e : E} {ds : List D} {en1 : En} (h : evE C md e en = .ok (.tup ds, false) en1) (hs : stVars is ds en1 = some en') : Ps w C md en (.asg (.tp is) e) en' := by
  unfold Ps
  rw [evS, h]
  show (stR (stVars is ds en1)).bind _ = _
  rw [hs]; rfl
theorem toB_ev {e : E} {b own : Bool} {en1 : En} (h : evE C md e en = .ok (.bl b, own) en1) : toB (evE C md e en) = .ok b en1 := by rw [h]; rfl
theorem ss_ifU {c : E} {a b : Ss} {ss : Ss} {k : Bool} {en1 : En} {r : Rs Fl} (hc : toB (evE C md c en) = .ok k en1) (h : evSs w C md (if k then a else b) en1 = r) : evSs w C md (.cons (.ife c a b) ss) en = r.bind fun fl en => match fl with
    | .nx => evSs w C md ss en | .br => .ok .br en | .ct => .ok .ct en | .rt d o => .ok (.rt d o) en := by
  rw [evSs_consU, evS, hc, ← h]
  cases k <;> rfl
theorem or_f {a b : E} {en1 : En} {r : Rs (D × Bool)} (h1 : toB (evE C md a en) = .ok false en1) (h2 : evE C md b en1 = r) : evE C md (.or a b) en = r := by
  rw [evE, h1, ← h2]; rfl
theorem nt_ev {a : E} {k : Bool} {en1 : En} (h : toB (evE C md a en) = .ok k en1) : evE C md (.nt a) en = .ok (.bl (!k), false) en1 := by
  rw [evE, h]
/-! ### a comprehension over numbers, its element plain -/
theorem loopC_map {vs : List Nat} {tg : Tg} {c : En → Rs Bool} {f : En → Rs (D × Bool)} {g : D → D} {en0 : En} : ∀ (items acc : List D), (∀ d ∈ items, ∃ en1, stTg tg d false en0 = some en1 ∧ c en1 = .ok true en1 ∧ (∃ own, f en1 = .ok (g d, own) en1) ∧ wipeE en1 vs = en0) →
    acc.length + items.length ≤ sizeLine → loopC vs tg c f items acc en0 = .ok (acc ++ items.map g) en0
  | [], acc, _, _ => by simp [loopC]
  | d :: items, acc, h, hl => by
    obtain ⟨en1, h1, h2, ⟨own, h3⟩, h4⟩ := h d List.mem_cons_self
    simp only [List.length_cons] at hl
    unfold loopC
    rw [h1]
    show (noEr (c en1)).bind _ = _
    rw [h2]
    show (noEr (f en1)).bind _ = _
    rw [h3]
    show (if decide (acc.length < sizeLine) = true then loopC vs tg c f items (acc ++ [g d]) (wipeE en1 vs) else .bad) = _
    rw [decide_eq_true (by omega), if_pos rfl, h4, loopC_map items _ (fun d hd => h d (List.mem_cons_of_mem _ hd)) (by simp; omega)]
    simp
/-! ### loops -/
theorem loopF_inv {f : D → En → Rs Fl} (I : En → Prop) : ∀ (items : List D) (en : En), I en → (∀ d ∈ items, ∀ en, I en → ∃ en', f d en = .ok .nx en' ∧ I en') → ∃ en', loopF f items en = .ok .nx en' ∧ I en'
  | [], en, hi, _ => ⟨en, by unfold loopF; rfl, hi⟩
  | d :: items, en, hi, h => by
    obtain ⟨en1, h1, h2⟩ := h d List.mem_cons_self en hi
    obtain ⟨en2, h3, h4⟩ := loopF_inv I items en1 h2 fun d hd => h d (List.mem_cons_of_mem _ hd)
    refine ⟨en2, ?_, h4⟩
    unfold loopF
    rw [h1]
    exact h3
end
end L3

/-! L3S: the hand that all laws draw from. -/
namespace L3
open PySem PySem.Spec PyProof.Rows L2
structure Dk where
  k1 : Int
  k2 : Int
  k3 : Int
  m1 : Int
  k4 : Int
  k5 : Int
  m2 : Int
  k6 : Int
  k7 : Int
  m3 : Int
  k8 : Int
  k9 : Int
  m4 : Int
def fnDrawX (c : Dk) (t : E) : Fn := ⟨2, 5, [true, true], (.cons (.ife (.and (.op .eq (.cons (.op .idx (.cons (.pk 0) (.cons (.cst (.int 2)) .nil))) (.cons (.cst (.int 0)) .nil))) (.op .lt (.cons (.op .idx (.cons (.pk 0) (.cons (.cst (.int 1)) .nil))) (.cons (.op .len (.cons (.op .idx (.cons (.pk 0) (.cons (.cst (.int 0)) .nil))) .nil)) .nil)))) (.cons (.asg (.nm 2) (.op .idx (.cons (.op .idx (.cons (.pk 0) (.cons (.cst (.int 0)) .nil))) (.cons (.op .idx (.cons (.pk 0) (.cons (.cst (.int 1)) .nil))) .nil)))) (.cons (.seti 0 (.op .add (.cons (.op .idx (.cons (.pk 0) (.cons (.cst (.int 1)) .nil))) (.cons (.cst (.int 1)) .nil))) (.cst (.int 1))) (.cons (.seti 0 (.op .mod (.cons (.op .int (.cons (.op .add (.cons (.op .add (.cons (.op .mul (.cons (.op .idx (.cons (.pk 0) (.cons (.cst (.int 3)) .nil))) (.cons (.cst (.int c.k1)) .nil))) (.cons t .nil))) (.cons (.cst (.int c.k3)) .nil))) .nil)) (.cons (.cst (.int c.m1)) .nil))) (.cst (.int 3))) (.cons (.ife (.op .ge (.cons (.pk 2) (.cons (.op .pow (.cons (.cst (.int 10)) (.cons (.cst (.int 18)) .nil))) .nil))) (.cons (.seti 0 (.var 2) (.cst (.int 2))) .nil) .nil) .nil)))) .nil) (.cons (.ife (.op .gt (.cons (.op .idx (.cons (.pk 0) (.cons (.cst (.int 2)) .nil))) (.cons (.cst (.int 0)) .nil))) (.cons (.asg (.nm 3) (.op .mod (.cons (.op .int (.cons (.op .idx (.cons (.pk 0) (.cons (.cst (.int 2)) .nil))) .nil)) (.cons (.pk 1) .nil)))) (.cons (.seti 0 (.op .fdiv (.cons (.op .idx (.cons (.pk 0) (.cons (.cst (.int 2)) .nil))) (.cons (.pk 1) .nil))) (.cst (.int 2))) (.cons (.ret (.mv 3)) .nil))) .nil) (.cons (.seti 0 (.op .add (.cons (.op .idx (.cons (.pk 0) (.cons (.cst (.int 4)) .nil))) (.cons (.cst (.int 1)) .nil))) (.cst (.int 4))) (.cons (.asg (.nm 4) (.op .mod (.cons (.op .int (.cons (.op .mul (.cons (.op .int (.cons (.op .add (.cons (.op .idx (.cons (.pk 0) (.cons (.cst (.int 3)) .nil))) (.cons (.op .mul (.cons (.cst (.int c.k4)) (.cons (.op .idx (.cons (.pk 0) (.cons (.cst (.int 4)) .nil))) .nil))) .nil))) .nil)) (.cons (.cst (.int c.k5)) .nil))) .nil)) (.cons (.cst (.int c.m2)) .nil)))) (.cons (.asg (.nm 4) (.op .mod (.cons (.op .int (.cons (.op .mul (.cons (.pk 4) (.cons (.op .add (.cons (.op .fdiv (.cons (.pk 4) (.cons (.cst (.int c.k6)) .nil))) (.cons (.cst (.int c.k7)) .nil))) .nil))) .nil)) (.cons (.cst (.int c.m3)) .nil)))) (.cons (.asg (.nm 4) (.op .mod (.cons (.op .int (.cons (.op .mul (.cons (.pk 4) (.cons (.op .add (.cons (.op .fdiv (.cons (.pk 4) (.cons (.cst (.int c.k8)) .nil))) (.cons (.cst (.int c.k9)) .nil))) .nil))) .nil)) (.cons (.cst (.int c.m4)) .nil)))) (.cons (.ret (.op .mod (.cons (.op .int (.cons (.op .fdiv (.cons (.pk 4) (.cons (.cst (.int 16)) .nil))) .nil)) (.cons (.pk 1) .nil)))) .nil)))))))⟩
@[reducible] def fnDraw (c : Dk) : Fn := fnDrawX c (.op .mul (.cons (.pk 2) (.cons (.cst (.int c.k2)) .nil)))
/-- the cell itself is mixed in -/
@[reducible] def fnDrawP (c : Dk) : Fn := fnDrawX c (.pk 2)
/-- what is mixed in is a number -/
def CellT (t : E) : Prop := ∀ (C : Nat → List (Bool × D) → CRes) (md : Nat → List Bool) (en : En) (x : Int), en[2]? = some (some (.sh, .int x)) → ∃ y : Int, Pa C md en t (.int y)
structure Dk.Ok (c : Dk) : Prop where
  k1 : -(2 ^ 64) < c.k1 ∧ c.k1 < 2 ^ 64
  k2 : -(2 ^ 64) < c.k2 ∧ c.k2 < 2 ^ 64
  m1 : 0 < c.m1
  k4 : -(2 ^ 64) < c.k4 ∧ c.k4 < 2 ^ 64
  k5 : -(2 ^ 64) < c.k5 ∧ c.k5 < 2 ^ 64
  m2 : 0 < c.m2 ∧ c.m2 < 2 ^ 64
  k6 : 0 < c.k6 ∧ c.k6 < 1073741824
  m3 : 0 < c.m3 ∧ c.m3 < 2 ^ 64
  k8 : 0 < c.k8 ∧ c.k8 < 1073741824
  m4 : 0 < c.m4
theorem cellP : CellT (.pk 2) := fun C md en x h => ⟨x, pa_pk h⟩
theorem cellM {k : Dk} (hk : k.Ok) : CellT (.op .mul (.cons (.pk 2) (.cons (.cst (.int k.k2)) .nil))) := fun C md en x h => ⟨x * k.k2, (pe_op2 (pa_pk h) pe_cst.a (run_mul (mul_r hk.k2)) : Pe C md en _ _ _).a⟩
def hand (cells : List Int) (a b c d : Int) : D := .lst [.lst (cells.map D.int), .int a, .int b, .int c, .int d]
section
variable {w : Nat} {C : Nat → List (Bool × D) → CRes} {md : Nat → List Bool} {k : Dk} {cells : List Int} {a b c d m : Int}
theorem ss_bind {s : S} {ss : Ss} {en : En} : evSs w C md (.cons s ss) en = (evS w C md s en).bind fun fl en => match fl with
    | .nx => evSs w C md ss en | .br => .ok .br en | .ct => .ok .ct en | .rt d o => .ok (.rt d o) en := evSs_consU w C md s ss en
/-- the first half: a cell is taken -/
theorem draw1 (hk : k.Ok) {t : E} (ht : CellT t) {c1 : E} {s1 : Ss} {r1 : Ss} (hbody : (fnDrawX k t).body = .cons (.ife c1 s1 .nil) r1) (hc : ∀ x ∈ cells, 0 ≤ x) (ha : 0 ≤ a) (hb : 0 ≤ b) :
    ∃ a' b' c' x, 0 ≤ a' ∧ 0 ≤ b' ∧ evSs w C md (fnDrawX k t).body [some (.brw, hand cells a b c d), some (.sh, .int m), none, none, none] = evSs w C md r1 [some (.brw, hand cells a' b' c' d), some (.sh, .int m), x, none, none] := by
  rw [hbody]
  cases hbody
  let en : En := [some (.brw, hand cells a b c d), some (.sh, .int m), none, none, none]
  have h0 : en[0]? = some (some (.brw, hand cells a b c d)) := rfl
  have e1 : Pe C md en (.op .eq (.cons (.op .idx (.cons (.pk 0) (.cons (.cst (.int 2)) .nil))) (.cons (.cst (.int 0)) .nil))) (.bl (b == 0)) false :=
    pe_op2 (p := (.bl (b == 0), false)) (pe_ix (x := .int b) h0 rfl).a pe_cst.a rfl
  have eL : Pe C md en (.op .len (.cons (.op .idx (.cons (.pk 0) (.cons (.cst (.int 0)) .nil))) .nil)) (.int cells.length) false := by
    have := pe_op1 (C := C) (md := md) (o := .len) (p := (.int (cells.map D.int).length, false)) (pe_ix (C := C) (md := md) (k := 0) (x := .lst (cells.map D.int)) h0 rfl).a rfl
    rw [List.length_map] at this
    exact this
  have e2 : Pe C md en (.op .lt (.cons (.op .idx (.cons (.pk 0) (.cons (.cst (.int 1)) .nil))) (.cons (.op .len (.cons (.op .idx (.cons (.pk 0) (.cons (.cst (.int 0)) .nil))) .nil)) .nil))) (.bl (decide (a < cells.length))) false :=
    pe_op2 (p := (.bl (decide (a < cells.length)), false)) (pe_ix (x := .int a) h0 rfl).a eL.a rfl
  have ec : Pe C md en (.and (.op .eq (.cons (.op .idx (.cons (.pk 0) (.cons (.cst (.int 2)) .nil))) (.cons (.cst (.int 0)) .nil))) (.op .lt (.cons (.op .idx (.cons (.pk 0) (.cons (.cst (.int 1)) .nil))) (.cons (.op .len (.cons (.op .idx (.cons (.pk 0) (.cons (.cst (.int 0)) .nil))) .nil)) .nil)))) (.bl ((b == 0) && decide (a < cells.length))) false := by
    refine pe_and e1 (fun h => ?_) (fun h => ?_)
    · rw [h]; exact e2
    · rw [h]; exact ⟨rfl, rfl⟩
  by_cases hcond : ((b == 0) && decide (a < cells.length)) = true
  · obtain ⟨hb0, hal⟩ := Bool.and_eq_true_iff.mp hcond
    have hb0 : b = 0 := by simpa using hb0
    have hal : a < cells.length := of_decide_eq_true hal
    obtain ⟨j, rfl⟩ : ∃ j : Nat, a = j := ⟨a.toNat, by omega⟩
    have hj : j < cells.length := by omega
    have hat : atI (cells.map D.int) (j : Int) = some (.int cells[j]) := atI_nat (by rw [List.getElem?_map, List.getElem?_eq_getElem hj]; rfl)
    have hcell : 0 ≤ cells[j] := hc _ (List.getElem_mem _)
    -- cell = hand[0][hand[1]]
    let en1 : En := [some (.brw, hand cells j b c d), some (.sh, .int m), some (.sh, .int cells[j]), none, none]
    let en2 : En := [some (.brw, hand cells (j + 1) b c d), some (.sh, .int m), some (.sh, .int cells[j]), none, none]
    obtain ⟨yy, p2⟩ := ht C md [some (.brw, hand cells (j + 1) b c d), some (.sh, .int m), some (.sh, .int cells[j]), none, none] cells[j] rfl
    let en3 : En := [some (.brw, hand cells (j + 1) b ((c * k.k1 + yy + k.k3) % k.m1) d), some (.sh, .int m), some (.sh, .int cells[j]), none, none]
    let en4 : En := [some (.brw, hand cells (j + 1) cells[j] ((c * k.k1 + yy + k.k3) % k.m1) d), some (.sh, .int m), some (.sh, .int cells[j]), none, none]
    have s1 : Ps w C md en (.asg (.nm 2) (.op .idx (.cons (.op .idx (.cons (.pk 0) (.cons (.cst (.int 0)) .nil))) (.cons (.op .idx (.cons (.pk 0) (.cons (.cst (.int 1)) .nil))) .nil)))) en1 :=
      ps_asg (pe_op2 (p := (.int cells[j], false)) (pe_ix (x := .lst (cells.map D.int)) h0 rfl).a (pe_ix (x := .int j) h0 rfl).a (by
        show (match atI (cells.map D.int) (j : Int) with | some d => some (d, false) | none => none) = _
        rw [hat])) rfl
    -- hand[1] = hand[1] + 1
    have f0 : en1[0]? = some (some (.brw, hand cells j b c d)) := rfl
    have s2 : Ps w C md en1 (.seti 0 (.op .add (.cons (.op .idx (.cons (.pk 0) (.cons (.cst (.int 1)) .nil))) (.cons (.cst (.int 1)) .nil))) (.cst (.int 1))) en2 :=
      ps_seti (k := 1) (j := 1) ((pe_op2 (p := (.int (j + 1), false)) (pe_ix (x := .int j) f0 rfl).a pe_cst.a rfl).k (by intro i z; cases z)) (pe_cst.k (by intro i z; cases z)) f0 rfl rfl
    -- hand[3] = int(hand[3] * k1 + cell * k2 + k3) % m1
    have g0 : en2[0]? = some (some (.brw, hand cells (j + 1) b c d)) := rfl
    have g2 : en2[2]? = some (some (.sh, .int cells[j])) := rfl
    have p1 : Pe C md en2 (.op .mul (.cons (.op .idx (.cons (.pk 0) (.cons (.cst (.int 3)) .nil))) (.cons (.cst (.int k.k1)) .nil))) (.int (c * k.k1)) false := pe_op2 (pe_ix (x := .int c) g0 rfl).a pe_cst.a (run_mul (mul_r hk.k1))
    have p3 := pe_op2 (o := .add) (p := (.int (c * k.k1 + yy), false)) p1.a p2 rfl
    have p4 := pe_op2 (o := .add) (p := (.int (c * k.k1 + yy + k.k3), false)) (p3 : Pe C md en2 _ _ _).a (pe_cst (d := .int k.k3)).a rfl
    have p5 := pe_op1 (o := .int) (p := (.int (c * k.k1 + yy + k.k3), false)) (p4 : Pe C md en2 _ _ _).a rfl
    have p6 := pe_op2 (o := .mod) (p5 : Pe C md en2 _ _ _).a (pe_cst (d := .int k.m1)).a (run_mod hk.m1)
    have s3 : Ps w C md en2 (.seti 0 _ (.cst (.int 3))) en3 := ps_seti (k := 3) (j := 3) ((p6 : Pe C md en2 _ _ _).k (by intro i z; cases z)) (pe_cst.k (by intro i z; cases z)) g0 rfl rfl
    -- if cell >= 10 ** 18: hand[2] = cell
    have q0 : en3[0]? = some (some (.brw, hand cells (j + 1) b ((c * k.k1 + yy + k.k3) % k.m1) d)) := rfl
    have q2 : en3[2]? = some (some (.sh, .int cells[j])) := rfl
    have pp : Pe C md en3 (.op .pow (.cons (.cst (.int 10)) (.cons (.cst (.int 18)) .nil))) (.int (10 ^ 18)) false := pe_op2 (p := (.int ((10 : Int) ^ (18 : Int).toNat), false)) pe_cst.a pe_cst.a (run_pow (by decide))
    have pg : Pe C md en3 (.op .ge (.cons (.pk 2) (.cons (.op .pow (.cons (.cst (.int 10)) (.cons (.cst (.int 18)) .nil))) .nil))) (.bl (decide (10 ^ 18 ≤ cells[j]))) false := pe_op2 (p := (.bl (decide (10 ^ 18 ≤ cells[j])), false)) (pa_pk q2) pp.a rfl
    have s4 : Ps w C md en3 (.seti 0 (.var 2) (.cst (.int 2))) en4 := ps_seti (k := 2) (j := 2) ((pe_var q2).k (by intro i z; cases z)) (pe_cst.k (by intro i z; cases z)) q0 rfl rfl
    by_cases h18 : (10 : Int) ^ 18 ≤ cells[j]
    · have e4 := ss_if (w := w) (a := .cons (.seti 0 (.var 2) (.cst (.int 2))) .nil) (b := .nil) (ss := .nil) pg (r := .ok .nx en4) (by rw [decide_eq_true h18, if_pos rfl]; exact (ss_step s4).trans ss_nilU)
      have e4 := e4.trans ss_nilU
      have e5 := (ss_step s1).trans ((ss_step s2).trans ((ss_step s3).trans e4))
      exact ⟨j + 1, cells[j], (c * k.k1 + yy + k.k3) % k.m1, _, by omega, hcell, (ss_if (r := .ok .nx en4) ec (by rw [if_pos hcond]; exact e5)).trans rfl⟩
    · have e4 := ss_if (w := w) (a := .cons (.seti 0 (.var 2) (.cst (.int 2))) .nil) (b := .nil) (ss := .nil) pg (r := .ok .nx en3) (by rw [decide_eq_false h18, if_neg (by decide)]; exact ss_nilU)
      have e4 := e4.trans ss_nilU
      have e5 := (ss_step s1).trans ((ss_step s2).trans ((ss_step s3).trans e4))
      exact ⟨j + 1, b, (c * k.k1 + yy + k.k3) % k.m1, _, by omega, hb, (ss_if (r := .ok .nx en3) ec (by rw [if_pos hcond]; exact e5)).trans rfl⟩
  · exact ⟨a, b, c, none, ha, hb, (ss_if (r := .ok .nx en) ec (by rw [if_neg hcond]; exact ss_nilU)).trans rfl⟩
theorem pe_mv {en : En} {i : Nat} {d : D} (h : en[i]? = some (some (.sh, d))) : evE C md (.mv i) en = .ok (d, false) en := by
  rw [evE, mvVar, h]
  show rdVar i en = _
  rw [rdVar, h]
/-- the second half: a number is told -/
theorem draw2 (hk : k.Ok) {t : E} {x : Cell} {c1 : E} {s1 : Ss} {r1 : Ss} (hbody : (fnDrawX k t).body = .cons (.ife c1 s1 .nil) r1) (hb : 0 ≤ b) (hm : 0 < m) (hm2 : ∀ b, divOk b m = true) :
    ∃ b' d' r y z, 0 ≤ b' ∧ 0 ≤ r ∧ r < m ∧ evSs w C md r1 [some (.brw, hand cells a b c d), some (.sh, .int m), x, none, none] = .ok (.rt (.int r) false) [some (.brw, hand cells a b' c d'), some (.sh, .int m), x, y, z] := by
  cases hbody
  let en : En := [some (.brw, hand cells a b c d), some (.sh, .int m), x, none, none]
  have h0 : en[0]? = some (some (.brw, hand cells a b c d)) := rfl
  have h1 : en[1]? = some (some (.sh, .int m)) := rfl
  have e1 : Pe C md en (.op .gt (.cons (.op .idx (.cons (.pk 0) (.cons (.cst (.int 2)) .nil))) (.cons (.cst (.int 0)) .nil))) (.bl (decide (0 < b))) false :=
    pe_op2 (p := (.bl (decide (0 < b)), false)) (pe_ix (x := .int b) h0 rfl).a pe_cst.a rfl
  by_cases hb0 : 0 < b
  · let en1 : En := [some (.brw, hand cells a b c d), some (.sh, .int m), x, some (.sh, .int (b % m)), none]
    let en2 : En := [some (.brw, hand cells a (b / m) c d), some (.sh, .int m), x, some (.sh, .int (b % m)), none]
    have q1 := pe_op1 (C := C) (md := md) (en := en) (o := .int) (p := (.int b, false)) (pe_ix (k := 2) (x := .int b) h0 rfl).a rfl
    have q2 := pe_op2 (o := .mod) (q1 : Pe C md en _ _ _).a (pa_pk h1) (run_mod hm)
    have s1 : Ps w C md en (.asg (.nm 3) _) en1 := ps_asg q2 rfl
    have f0 : en1[0]? = some (some (.brw, hand cells a b c d)) := rfl
    have f1 : en1[1]? = some (some (.sh, .int m)) := rfl
    have q3 := pe_op2 (C := C) (md := md) (en := en1) (o := .fdiv) (pe_ix (k := 2) (x := .int b) f0 rfl).a (pa_pk f1) (run_fdiv (hm2 _))
    have s2 : Ps w C md en1 (.seti 0 _ (.cst (.int 2))) en2 := ps_seti (k := 2) (j := 2) ((q3 : Pe C md en1 _ _ _).k (by intro i z; cases z)) (pe_cst.k (by intro i z; cases z)) f0 rfl rfl
    have f3 : en2[3]? = some (some (.sh, .int (b % m))) := rfl
    have s3 := ss_ret (w := w) (ss := .nil) (pe_mv (C := C) (md := md) f3)
    have e5 := (ss_step s1).trans ((ss_step s2).trans s3)
    exact ⟨b / m, d, b % m, _, _, Int.ediv_nonneg hb (by omega), Int.emod_nonneg _ (by omega), Int.emod_lt_of_pos _ hm, (ss_if (r := .ok (.rt (.int (b % m)) false) en2) e1 (by rw [decide_eq_true hb0, if_pos rfl]; exact e5)).trans rfl⟩
  · let n1 : Int := (c + k.k4 * (d + 1)) * k.k5 % k.m2
    have n1b : 0 ≤ n1 ∧ n1 < k.m2 := ⟨Int.emod_nonneg _ (by have := hk.m2; omega), Int.emod_lt_of_pos _ hk.m2.1⟩
    let n2 : Int := n1 * (n1 / k.k6 + k.k7) % k.m3
    have n2b : 0 ≤ n2 ∧ n2 < k.m3 := ⟨Int.emod_nonneg _ (by have := hk.m3; omega), Int.emod_lt_of_pos _ hk.m3.1⟩
    let n3 : Int := n2 * (n2 / k.k8 + k.k9) % k.m4
    let en1 : En := [some (.brw, hand cells a b c (d + 1)), some (.sh, .int m), x, none, none]
    let en2 : En := [some (.brw, hand cells a b c (d + 1)), some (.sh, .int m), x, none, some (.sh, .int n1)]
    let en3 : En := [some (.brw, hand cells a b c (d + 1)), some (.sh, .int m), x, none, some (.sh, .int n2)]
    let en4 : En := [some (.brw, hand cells a b c (d + 1)), some (.sh, .int m), x, none, some (.sh, .int n3)]
    have s1 : Ps w C md en (.seti 0 (.op .add (.cons (.op .idx (.cons (.pk 0) (.cons (.cst (.int 4)) .nil))) (.cons (.cst (.int 1)) .nil))) (.cst (.int 4))) en1 :=
      ps_seti (k := 4) (j := 4) ((pe_op2 (p := (.int (d + 1), false)) (pe_ix (x := .int d) h0 rfl).a pe_cst.a rfl).k (by intro i z; cases z)) (pe_cst.k (by intro i z; cases z)) h0 rfl rfl
    have f0 : en1[0]? = some (some (.brw, hand cells a b c (d + 1))) := rfl
    have a1 := pe_op2 (C := C) (md := md) (en := en1) (o := .mul) (pe_cst (d := .int k.k4)).a (pe_ix (k := 4) (x := .int (d + 1)) f0 rfl).a (run_mul (mul_l hk.k4))
    have a2 := pe_op2 (C := C) (md := md) (en := en1) (o := .add) (p := (.int (c + k.k4 * (d + 1)), false)) (pe_ix (k := 3) (x := .int c) f0 rfl).a (a1 : Pe C md en1 _ _ _).a rfl
    have a3 := pe_op1 (o := .int) (p := (.int (c + k.k4 * (d + 1)), false)) (a2 : Pe C md en1 _ _ _).a rfl
    have a4 := pe_op2 (o := .mul) (a3 : Pe C md en1 _ _ _).a (pe_cst (d := .int k.k5)).a (run_mul (mul_r hk.k5))
    have a5 := pe_op1 (o := .int) (p := (.int ((c + k.k4 * (d + 1)) * k.k5), false)) (a4 : Pe C md en1 _ _ _).a rfl
    have a6 := pe_op2 (o := .mod) (a5 : Pe C md en1 _ _ _).a (pe_cst (d := .int k.m2)).a (run_mod hk.m2.1)
    have s2 : Ps w C md en1 (.asg (.nm 4) _) en2 := ps_asg a6 rfl
    have g4 : en2[4]? = some (some (.sh, .int n1)) := rfl
    have b1 := pe_op2 (C := C) (md := md) (en := en2) (o := .fdiv) (pa_pk g4) (pe_cst (d := .int k.k6)).a (run_fdiv (div_s hk.k6))
    have b2 := pe_op2 (o := .add) (p := (.int (n1 / k.k6 + k.k7), false)) (b1 : Pe C md en2 _ _ _).a (pe_cst (d := .int k.k7)).a rfl
    have b3 := pe_op2 (C := C) (md := md) (en := en2) (o := .mul) (pa_pk g4) (b2 : Pe C md en2 _ _ _).a (run_mul (mul_l ⟨by have := hk.m2; omega, by have := hk.m2; omega⟩))
    have b4 := pe_op1 (o := .int) (p := (.int (n1 * (n1 / k.k6 + k.k7)), false)) (b3 : Pe C md en2 _ _ _).a rfl
    have b5 := pe_op2 (o := .mod) (b4 : Pe C md en2 _ _ _).a (pe_cst (d := .int k.m3)).a (run_mod hk.m3.1)
    have s3 : Ps w C md en2 (.asg (.nm 4) _) en3 := ps_asg b5 rfl
    have i4 : en3[4]? = some (some (.sh, .int n2)) := rfl
    have c1 := pe_op2 (C := C) (md := md) (en := en3) (o := .fdiv) (pa_pk i4) (pe_cst (d := .int k.k8)).a (run_fdiv (div_s hk.k8))
    have c2 := pe_op2 (o := .add) (p := (.int (n2 / k.k8 + k.k9), false)) (c1 : Pe C md en3 _ _ _).a (pe_cst (d := .int k.k9)).a rfl
    have c3 := pe_op2 (C := C) (md := md) (en := en3) (o := .mul) (pa_pk i4) (c2 : Pe C md en3 _ _ _).a (run_mul (mul_l ⟨by have := hk.m3; omega, by have := hk.m3; omega⟩))
    have c4 := pe_op1 (o := .int) (p := (.int (n2 * (n2 / k.k8 + k.k9)), false)) (c3 : Pe C md en3 _ _ _).a rfl
    have c5 := pe_op2 (o := .mod) (c4 : Pe C md en3 _ _ _).a (pe_cst (d := .int k.m4)).a (run_mod hk.m4)
    have s4 : Ps w C md en3 (.asg (.nm 4) _) en4 := ps_asg c5 rfl
    have j4 : en4[4]? = some (some (.sh, .int n3)) := rfl
    have j1 : en4[1]? = some (some (.sh, .int m)) := rfl
    have d1 := pe_op2 (C := C) (md := md) (en := en4) (o := .fdiv) (pa_pk j4) (pe_cst (d := .int 16)).a (run_fdiv (div_s ⟨by decide, by decide⟩))
    have d2 := pe_op1 (o := .int) (p := (.int (n3 / 16), false)) (d1 : Pe C md en4 _ _ _).a rfl
    have d3 := pe_op2 (o := .mod) (d2 : Pe C md en4 _ _ _).a (pa_pk j1) (run_mod hm)
    have s5 := ss_ret (w := w) (ss := .nil) (d3 : Pe C md en4 _ _ _)
    have e5 := (ss_step s1).trans ((ss_step s2).trans ((ss_step s3).trans ((ss_step s4).trans s5)))
    exact ⟨b, d + 1, n3 / 16 % m, _, _, hb, Int.emod_nonneg _ (by omega), Int.emod_lt_of_pos _ hm, (ss_if (r := .ok .nx en) e1 (by rw [decide_eq_false hb0, if_neg (by decide)]; exact ss_nilU)).trans e5⟩
/-- a draw, below any number that may divide -/
theorem draw_okX (hk : k.Ok) {t : E} (ht : CellT t) (hc : ∀ x ∈ cells, 0 ≤ x) (ha : 0 ≤ a) (hb : 0 ≤ b) (hm : 0 < m) (hm2 : ∀ b, divOk b m = true) :
    ∃ a' b' c' d' r, 0 ≤ a' ∧ 0 ≤ b' ∧ 0 ≤ r ∧ r < m ∧ runFn w C md (fnDrawX k t) [(true, hand cells a b c d), (false, .int m)] = .ok (.int r) false [some (.brw, hand cells a' b' c' d'), none] := by
  obtain ⟨a', b', c', x, h1, h2, h3⟩ := draw1 (w := w) (C := C) (md := md) (m := m) (d := d) (c := c) (t := t) hk ht rfl hc ha hb
  obtain ⟨b2, d2, r, y, z, g1, g2, g3, g4⟩ := draw2 (w := w) (C := C) (md := md) (cells := cells) (a := a') (c := c') (d := d) (x := x) (t := t) hk rfl h2 hm hm2
  refine ⟨a', b2, c', d2, r, h1, g1, g2, g3, ?_⟩
  show resOf 2 (evSs w C md (fnDrawX k t).body [some (.brw, hand cells a b c d), some (.sh, .int m), none, none, none]) = _
  rw [h3, g4]
  rfl
/-- a draw -/
theorem draw_ok (hk : k.Ok) (hc : ∀ x ∈ cells, 0 ≤ x) (ha : 0 ≤ a) (hb : 0 ≤ b) (hm : 0 < m) (hm2 : m < 1073741824) :
    ∃ a' b' c' d' r, 0 ≤ a' ∧ 0 ≤ b' ∧ 0 ≤ r ∧ r < m ∧ runFn w C md (fnDraw k) [(true, hand cells a b c d), (false, .int m)] = .ok (.int r) false [some (.brw, hand cells a' b' c' d'), none] :=
  draw_okX hk (cellM hk) hc ha hb hm fun _ => div_s ⟨hm, hm2⟩
/-- one of some: fd the number of the def that draws -/
def fnAny (fd : Nat) : Fn := ⟨2, 2, [true, true], (.cons (.ret (.op .idx (.cons (.pk 1) (.cons (.call fd (.cons (.pk 0) (.cons (.op .len (.cons (.pk 1) .nil)) .nil))) .nil)))) .nil)⟩
theorem any_okX (hk : k.Ok) {t : E} (ht : CellT t) {fd : Nat} {some_ : List D} {C' : Nat → List (Bool × D) → CRes} (hC : C fd = runFn w C' md (fnDrawX k t)) (hmd : md fd = [true, true]) (hc : ∀ x ∈ cells, 0 ≤ x) (ha : 0 ≤ a) (hb : 0 ≤ b) (h0 : 0 < some_.length) (h1 : some_.length < 1073741824) :
    ∃ a' b' c' d' x, 0 ≤ a' ∧ 0 ≤ b' ∧ x ∈ some_ ∧ runFn w C md (fnAny fd) [(true, hand cells a b c d), (false, .lst some_)] = .ok x false [some (.brw, hand cells a' b' c' d'), none] := by
  obtain ⟨a', b', c', d', r, g1, g2, g3, g4, g5⟩ := draw_okX (w := w) (C := C') (md := md) (cells := cells) (a := a) (b := b) (c := c) (d := d) (m := (some_.length : Int)) (t := t) hk ht hc ha hb (by omega) (fun _ => div_s ⟨by omega, by omega⟩)
  obtain ⟨j, rfl⟩ : ∃ j : Nat, r = j := ⟨r.toNat, by omega⟩
  have hj : j < some_.length := by omega
  refine ⟨a', b', c', d', some_[j], g1, g2, List.getElem_mem _, ?_⟩
  let en : En := [some (.brw, hand cells a b c d), some (.sh, .lst some_)]
  let en1 : En := [some (.brw, hand cells a' b' c' d'), some (.sh, .lst some_)]
  have q0 : en[0]? = some (some (.brw, hand cells a b c d)) := rfl
  have q1 : en[1]? = some (some (.sh, .lst some_)) := rfl
  have el : evE C md (.op .len (.cons (.pk 1) .nil)) en = .ok (.int some_.length, false) en := pe_op1 (o := .len) (p := (.int some_.length, false)) (pa_pk q1) rfl
  have ec : evE C md (.call fd (.cons (.pk 0) (.cons (.op .len (.cons (.pk 1) .nil)) .nil))) en = .ok (.int j, false) en1 :=
    evE_callU (evA_consU (arg_pk q0) (evA_consU (arg_e el) evA_nilU)) (by rw [hmd]; rfl) (by rw [hC]; exact g5) rfl
  have ei : evE C md (.op .idx (.cons (.pk 1) (.cons (.call fd (.cons (.pk 0) (.cons (.op .len (.cons (.pk 1) .nil)) .nil))) .nil))) en = .ok (some_[j], false) en1 :=
    evE_opU (ds := [.lst some_, .int j]) (evA_consU (arg_pk q1) (evA_consU (arg_e ec) evA_nilU)) rfl (by
      show (match atI some_ (j : Int) with | some d => some (d, false) | none => none) = _
      rw [atI_nat (List.getElem?_eq_getElem hj)])
  show resOf 2 (evSs w C md (fnAny fd).body en) = _
  have := ss_ret (w := w) (ss := .nil) ei
  show resOf 2 (evSs w C md (.cons (.ret _) .nil) en) = _
  rw [this]
  rfl
theorem any_ok (hk : k.Ok) {fd : Nat} {some_ : List D} {C' : Nat → List (Bool × D) → CRes} (hC : C fd = runFn w C' md (fnDraw k)) (hmd : md fd = [true, true]) (hc : ∀ x ∈ cells, 0 ≤ x) (ha : 0 ≤ a) (hb : 0 ≤ b) (h0 : 0 < some_.length) (h1 : some_.length < 1073741824) :
    ∃ a' b' c' d' x, 0 ≤ a' ∧ 0 ≤ b' ∧ x ∈ some_ ∧ runFn w C md (fnAny fd) [(true, hand cells a b c d), (false, .lst some_)] = .ok x false [some (.brw, hand cells a' b' c' d'), none] :=
  any_okX hk (cellM hk) hC hmd hc ha hb h0 h1
/-- the hand at first -/
def fnHand (b0 b1 : Int) : Fn := ⟨1, 3, [true], (.cons (.asg (.nm 1) (.lc [2] (.nm 2) .seq (.cons (.slB (.pk 0) (.cst (.int 63))) .nil) (.cst (.bl true)) (.op .abs (.cons (.op .int (.cons (.pk 2) .nil)) .nil)))) (.cons (.ret (.op .lst (.cons (.var 1) (.cons (.cst (.int 0)) (.cons (.cst (.int 0)) (.cons (.op .add (.cons (.cst (.int b0)) (.cons (.op .mul (.cons (.cst (.int b1)) (.cons (.op .len (.cons (.pk 1) .nil)) .nil))) .nil))) (.cons (.cst (.int 0)) .nil))))))) .nil))⟩
def absI (i : Int) : Int := if i < 0 then -i else i
theorem hand_ok {b0 b1 : Int} {ns : List Int} (hn : ns.length ≤ 63) (hb1 : -(2 ^ 64) < b1 ∧ b1 < 2 ^ 64) :
    runFn w C md (fnHand b0 b1) [(false, .fls (ns.map D.int))] = .ok (hand (ns.map absI) 0 0 (b0 + b1 * ns.length) 0) true [none] := by
  let en : En := [some (.sh, .fls (ns.map D.int)), none, none]
  let en1 : En := [some (.sh, .fls (ns.map D.int)), some (.own, .lst ((ns.map absI).map D.int)), none]
  let en2 : En := [some (.sh, .fls (ns.map D.int)), some (.sh, .lst ((ns.map absI).map D.int)), none]
  have q0 : en[0]? = some (some (.sh, .fls (ns.map D.int))) := rfl
  have hcut : cut (ns.map D.int) none (some 63) = ns.map D.int := by
    unfold cut
    rw [HT.sIx_none, show HT.sIx (ns.map D.int).length (ns.map D.int).length (some 63) = min 63 (ns.map D.int).length from HT.sIx_nat _ _ 63]
    simp only [List.drop_zero, Nat.sub_zero]
    rw [List.take_of_length_le]
    simp only [List.length_map]; omega
  have es : evE C md (.slB (.pk 0) (.cst (.int 63))) en = .ok (.lst (ns.map D.int), true) en := by
    rw [evE, arg_pk q0]
    show (toI (evE C md (.cst (.int 63)) en)).bind (fun j en => slFin none (some j) (.p 0) en) = _
    rw [evE]
    show slFin none (some 63) (.p 0) en = _
    unfold slFin
    show (match slice3 (.fls (ns.map D.int)) none (some 63) with | some p => Rs.ok p en | none => .bad) = _
    show Rs.ok (D.lst (cut (ns.map D.int) none (some 63)), true) en = _
    rw [hcut]
  have el : loopC [2] (.nm 2) (fun en => toB (evE C md (.cst (.bl true)) en)) (fun en => evE C md (.op .abs (.cons (.op .int (.cons (.pk 2) .nil)) .nil)) en) (ns.map D.int) [] en = .ok ([] ++ (ns.map D.int).map fun d => match d with | .int i => .int (absI i) | d => d) en := by
    refine loopC_map _ _ (fun d hd => ?_) (by simp [sizeLine_eq]; omega)
    obtain ⟨i, _, rfl⟩ := List.mem_map.mp hd
    let en3 : En := [some (.sh, .fls (ns.map D.int)), none, some (.sh, .int i)]
    have q2 : en3[2]? = some (some (.sh, .int i)) := rfl
    refine ⟨en3, rfl, ?_, ⟨false, ?_⟩, rfl⟩
    · rw [evE]; rfl
    · exact pe_op1 (o := .abs) (p := (.int (absI i), false)) (pe_op1 (o := .int) (p := (.int i, false)) (pa_pk q2) rfl : Pe C md en3 _ _ _).a rfl
  have hmap : ((ns.map D.int).map fun d => match d with | .int i => .int (absI i) | d => d) = (ns.map absI).map D.int := by simp [List.map_map, Function.comp_def]
  have ec : evE C md (.lc [2] (.nm 2) .seq (.cons (.slB (.pk 0) (.cst (.int 63))) .nil) (.cst (.bl true)) (.op .abs (.cons (.op .int (.cons (.pk 2) .nil)) .nil))) en = .ok (.lst ((ns.map absI).map D.int), true) en := by
    rw [evE, evA_consU (arg_e es) evA_nilU]
    show (loopC [2] (.nm 2) _ _ (ns.map D.int) [] en).bind _ = _
    rw [el, hmap]
    rfl
  have s1 : Ps w C md en (.asg (.nm 1) _) en1 := ps_asgU ec rfl
  have f1 : en1[1]? = some (some (.own, .lst ((ns.map absI).map D.int))) := rfl
  have g1 : en2[1]? = some (some (.sh, .lst ((ns.map absI).map D.int))) := rfl
  have ev : evE C md (.var 1) en1 = .ok (.lst ((ns.map absI).map D.int), false) en2 := by rw [evE]; rfl
  have l1 := pe_op1 (C := C) (md := md) (o := .len) (p := (.int ((ns.map absI).map D.int).length, false)) (pa_pk g1) rfl
  have l2 := pe_op2 (o := .mul) (pe_cst (d := .int b1)).a (l1 : Pe C md en2 _ _ _).a (run_mul (mul_l hb1))
  have l3 := pe_op2 (o := .add) (p := (.int (b0 + b1 * (((ns.map absI).map D.int).length : Int)), false)) (pe_cst (d := .int b0)).a (l2 : Pe C md en2 _ _ _).a rfl
  have hlen : (((ns.map absI).map D.int).length : Int) = ns.length := by simp
  rw [hlen] at l3
  have er : evE C md (.op .lst (.cons (.var 1) (.cons (.cst (.int 0)) (.cons (.cst (.int 0)) (.cons (.op .add (.cons (.cst (.int b0)) (.cons (.op .mul (.cons (.cst (.int b1)) (.cons (.op .len (.cons (.pk 1) .nil)) .nil))) .nil))) (.cons (.cst (.int 0)) .nil)))))) en1 = .ok (hand (ns.map absI) 0 0 (b0 + b1 * ns.length) 0, true) en2 :=
    evE_opU (evA_consU (arg_e ev) (evA_consU (arg_e pe_cst) (evA_consU (arg_e pe_cst) (evA_consU (arg_e l3) (evA_consU (arg_e pe_cst) evA_nilU))))) rfl (by
      show gd (fit 5) _ = _
      have : fit 5 = true := by unfold fit; rw [sizeLine_eq]; decide
      rw [this]; rfl)
  have e5 := (ss_step s1).trans (ss_ret (w := w) (ss := .nil) er)
  show resOf 1 (evSs w C md (fnHand b0 b1).body en) = _
  show resOf 1 (evSs w C md (.cons _ (.cons _ .nil)) en) = _
  rw [e5]
  rfl
theorem absI_nn (i : Int) : 0 ≤ absI i := by unfold absI; split <;> omega
end
end L3

namespace Law
open PySem PySem.Spec PyProof.Rows L2 L3
abbrev WN : Nat := 20000
theorem md0 : mdOf tb 0 = [true] := rfl
theorem u0 (n : Nat) : callD tb WN (n + 1) 0 = runFn WN (callD tb WN n) (mdOf tb) fn_is_integer := callD_succ rfl
theorem md1 : mdOf tb 1 = [false, false] := rfl
theorem u1 (n : Nat) : callD tb WN (n + 1) 1 = runFn WN (callD tb WN n) (mdOf tb) fn_common := callD_succ rfl
@[reducible] def W1_0c : E := (.op .gt (.cons (.pk 1) (.cons (.cst (.int 0)) .nil)))
@[reducible] def W1_0 : Ss := (.cons (.par [0, 1] (.cons (.var 1) (.cons (.op .mod (.cons (.pk 0) (.cons (.pk 1) .nil))) .nil))) .nil)
theorem md2 : mdOf tb 2 = [] := rfl
theorem u2 (n : Nat) : callD tb WN (n + 1) 2 = runFn WN (callD tb WN n) (mdOf tb) fn_BadCoins___init__ := callD_succ rfl
theorem md3 : mdOf tb 3 = [true, true] := rfl
theorem u3 (n : Nat) : callD tb WN (n + 1) 3 = runFn WN (callD tb WN n) (mdOf tb) fn_check_two := callD_succ rfl
@[reducible] def F3_0 : Ss := (.cons (.ife (.or (.nt (.call 0 (.cons (.pk 2) .nil))) (.nt (.chn .le .le (.cst (.int 1)) (.pk 2) (.op (.glb (.int 10000000000000000000000000000000000000000000000000000000000000000000000000000000000000000000000000000)) .nil)))) (.cons (.rse 2 ["at"] (.cons (.op .neg (.cons (.cst (.int 1)) .nil)) .nil)) .nil) .nil) .nil)
theorem md4 : mdOf tb 4 = [true] := rfl
theorem u4 (n : Nat) : callD tb WN (n + 1) 4 = runFn WN (callD tb WN n) (mdOf tb) fn_check_number := callD_succ rfl
theorem md5 : mdOf tb 5 = [true, true] := rfl
theorem u5 (n : Nat) : callD tb WN (n + 1) 5 = runFn WN (callD tb WN n) (mdOf tb) fn_inverse_of := callD_succ rfl
@[reducible] def W5_0c : E := (.op .ne (.cons (.pk 5) (.cons (.cst (.int 0)) .nil)))
@[reducible] def W5_0 : Ss := (.cons (.asg (.nm 6) (.op .fdiv (.cons (.pk 4) (.cons (.pk 5) .nil)))) (.cons (.par [4, 5] (.cons (.var 5) (.cons (.op .sub (.cons (.pk 4) (.cons (.op .mul (.cons (.pk 6) (.cons (.pk 5) .nil))) .nil))) .nil))) (.cons (.par [2, 3] (.cons (.var 3) (.cons (.op .sub (.cons (.pk 2) (.cons (.op .mul (.cons (.pk 6) (.cons (.pk 3) .nil))) .nil))) .nil))) .nil)))
theorem md6 : mdOf tb 6 = [true, true, true] := rfl
theorem u6 (n : Nat) : callD tb WN (n + 1) 6 = runFn WN (callD tb WN n) (mdOf tb) fn_first_count := callD_succ rfl
theorem md7 : mdOf tb 7 = [true, true, true] := rfl
theorem u7 (n : Nat) : callD tb WN (n + 1) 7 = runFn WN (callD tb WN n) (mdOf tb) fn_two_pay := callD_succ rfl
theorem md8 : mdOf tb 8 = [true, true, true] := rfl
theorem u8 (n : Nat) : callD tb WN (n + 1) 8 = runFn WN (callD tb WN n) (mdOf tb) fn_two_ways := callD_succ rfl
theorem md9 : mdOf tb 9 = [true, true, true] := rfl
theorem u9 (n : Nat) : callD tb WN (n + 1) 9 = runFn WN (callD tb WN n) (mdOf tb) fn_two_fewest := callD_succ rfl
theorem md10 : mdOf tb 10 = [true, true, true] := rfl
theorem u10 (n : Nat) : callD tb WN (n + 1) 10 = runFn WN (callD tb WN n) (mdOf tb) fn_two_most := callD_succ rfl
theorem md11 : mdOf tb 11 = [true, true, true] := rfl
theorem u11 (n : Nat) : callD tb WN (n + 1) 11 = runFn WN (callD tb WN n) (mdOf tb) fn_two_signed := callD_succ rfl
theorem md12 : mdOf tb 12 = [true] := rfl
theorem u12 (n : Nat) : callD tb WN (n + 1) 12 = runFn WN (callD tb WN n) (mdOf tb) fn__law_hand := callD_succ rfl
@[reducible] def L12_0c : E := (.cst (.bl true))
@[reducible] def L12_0 : E := (.op .abs (.cons (.op .int (.cons (.pk 2) .nil)) .nil))
theorem md13 : mdOf tb 13 = [true, true] := rfl
theorem u13 (n : Nat) : callD tb WN (n + 1) 13 = runFn WN (callD tb WN n) (mdOf tb) fn__law_draw := callD_succ rfl
theorem md14 : mdOf tb 14 = [true, true] := rfl
theorem u14 (n : Nat) : callD tb WN (n + 1) 14 = runFn WN (callD tb WN n) (mdOf tb) fn__law_some := callD_succ rfl
theorem md15 : mdOf tb 15 = [true, true] := rfl
theorem u15 (n : Nat) : callD tb WN (n + 1) 15 = runFn WN (callD tb WN n) (mdOf tb) fn__law_is := callD_succ rfl
@[reducible] def L15_0c : E := (.cst (.bl true))
@[reducible] def L15_0 : E := (.call 15 (.cons (.pk 2) (.cons (.pk 3) .nil)))
theorem md16 : mdOf tb 16 = [false, false] := rfl
theorem u16 (n : Nat) : callD tb WN (n + 1) 16 = runFn WN (callD tb WN n) (mdOf tb) fn__law_gcd := callD_succ rfl
@[reducible] def W16_0c : E := (.op .gt (.cons (.pk 1) (.cons (.cst (.int 0)) .nil)))
@[reducible] def W16_0 : Ss := (.cons (.par [0, 1] (.cons (.var 1) (.cons (.op .mod (.cons (.op .int (.cons (.pk 0) .nil)) (.cons (.pk 1) .nil))) .nil))) .nil)
theorem md17 : mdOf tb 17 = [true, true] := rfl
theorem u17 (n : Nat) : callD tb WN (n + 1) 17 = runFn WN (callD tb WN n) (mdOf tb) fn__law_turned := callD_succ rfl
@[reducible] def W17_0c : E := (.op .gt (.cons (.pk 3) (.cons (.cst (.int 0)) .nil)))
@[reducible] def W17_0 : Ss := (.cons (.asg (.nm 6) (.op .fdiv (.cons (.pk 2) (.cons (.pk 3) .nil)))) (.cons (.asg (.tp [2, 3, 4, 5]) (.op .tup (.cons (.var 3) (.cons (.op .sub (.cons (.pk 2) (.cons (.op .mul (.cons (.pk 6) (.cons (.pk 3) .nil))) .nil))) (.cons (.var 5) (.cons (.op .sub (.cons (.pk 4) (.cons (.op .mul (.cons (.pk 6) (.cons (.pk 5) .nil))) .nil))) .nil)))))) .nil))
theorem md18 : mdOf tb 18 = [true, true, true] := rfl
theorem u18 (n : Nat) : callD tb WN (n + 1) 18 = runFn WN (callD tb WN n) (mdOf tb) fn__law_split := callD_succ rfl
theorem md19 : mdOf tb 19 = [true, true] := rfl
theorem u19 (n : Nat) : callD tb WN (n + 1) 19 = runFn WN (callD tb WN n) (mdOf tb) fn__law_prime_pair := callD_succ rfl
theorem md20 : mdOf tb 20 = [true] := rfl
theorem u20 (n : Nat) : callD tb WN (n + 1) 20 = runFn WN (callD tb WN n) (mdOf tb) fn__law_word := callD_succ rfl
theorem md21 : mdOf tb 21 = [true, true, true] := rfl
theorem u21 (n : Nat) : callD tb WN (n + 1) 21 = runFn WN (callD tb WN n) (mdOf tb) fn__law_due := callD_succ rfl
theorem md22 : mdOf tb 22 = [true, true, true] := rfl
theorem u22 (n : Nat) : callD tb WN (n + 1) 22 = runFn WN (callD tb WN n) (mdOf tb) fn__law_told := callD_succ rfl
theorem md23 : mdOf tb 23 = [true, true, true] := rfl
theorem u23 (n : Nat) : callD tb WN (n + 1) 23 = runFn WN (callD tb WN n) (mdOf tb) fn__law_listed := callD_succ rfl
@[reducible] def L23_0c : E := (.op .eq (.cons (.op .mod (.cons (.op .int (.cons (.op .sub (.cons (.pk 2) (.cons (.op .mul (.cons (.pk 0) (.cons (.pk 4) .nil))) .nil))) .nil)) (.cons (.pk 1) .nil))) (.cons (.cst (.int 0)) .nil)))
@[reducible] def L23_0 : E := (.var 4)
@[reducible] def L23_1c : E := (.cst (.bl true))
@[reducible] def L23_1 : E := (.op .tup (.cons (.var 4) (.cons (.op .fdiv (.cons (.op .sub (.cons (.pk 2) (.cons (.op .mul (.cons (.pk 0) (.cons (.pk 4) .nil))) .nil))) (.cons (.pk 1) .nil))) .nil)))
theorem md24 : mdOf tb 24 = [true, true, true] := rfl
theorem u24 (n : Nat) : callD tb WN (n + 1) 24 = runFn WN (callD tb WN n) (mdOf tb) fn__law_numbers := callD_succ rfl
theorem md25 : mdOf tb 25 = [true, true, true] := rfl
theorem u25 (n : Nat) : callD tb WN (n + 1) 25 = runFn WN (callD tb WN n) (mdOf tb) fn__law_is_right := callD_succ rfl
@[reducible] def F25_0 : Ss := (.cons (.asg (.nm 4) (.call 21 (.cons (.pk 1) (.cons (.pk 2) (.cons (.pk 3) .nil))))) (.cons (.ife (.nt (.call 15 (.cons (.call 22 (.cons (.pk 1) (.cons (.pk 2) (.cons (.pk 3) .nil)))) (.cons (.pk 4) .nil)))) (.cons (.ret (.cst (.bl false))) .nil) .nil) (.cons (.ife (.and (.op .notN (.cons (.op .idx (.cons (.pk 4) (.cons (.cst (.int 0)) .nil))) .nil)) (.op .ne (.cons (.op .add (.cons (.op .mul (.cons (.pk 1) (.cons (.op .idx (.cons (.op .idx (.cons (.pk 4) (.cons (.cst (.int 0)) .nil))) (.cons (.cst (.int 0)) .nil))) .nil))) (.cons (.op .mul (.cons (.pk 2) (.cons (.op .idx (.cons (.op .idx (.cons (.pk 4) (.cons (.cst (.int 0)) .nil))) (.cons (.cst (.int 1)) .nil))) .nil))) .nil))) (.cons (.pk 3) .nil)))) (.cons (.ret (.cst (.bl false))) .nil) .nil) (.cons (.asg (.nm 5) (.call 22 (.cons (.pk 2) (.cons (.pk 1) (.cons (.pk 3) .nil))))) (.cons (.ife (.nt (.call 15 (.cons (.op .lst (.cons (.slC (.pk 5) (.cst (.int 1)) (.cst (.int 4))) (.cons (.op .isN (.cons (.op .idx (.cons (.pk 5) (.cons (.cst (.int 0)) .nil))) .nil)) .nil))) (.cons (.op .lst (.cons (.slC (.pk 4) (.cst (.int 1)) (.cst (.int 4))) (.cons (.op .isN (.cons (.op .idx (.cons (.pk 4) (.cons (.cst (.int 0)) .nil))) .nil)) .nil))) .nil)))) (.cons (.ret (.cst (.bl false))) .nil) .nil) .nil)))))
theorem md26 : mdOf tb 26 = [true] := rfl
theorem u26 (n : Nat) : callD tb WN (n + 1) 26 = runFn WN (callD tb WN n) (mdOf tb) fn__law_is_listed_right := callD_succ rfl
@[reducible] def F26_0 : Ss := (.cons (.asg (.nm 4) (.call 23 (.cons (.pk 1) (.cons (.pk 2) (.cons (.pk 3) .nil))))) (.cons (.asg (.nm 5) (.lc [7, 8] (.tp [7, 8]) .seq (.cons (.var 4) .nil) (.cst (.bl true)) (.op .add (.cons (.pk 7) (.cons (.pk 8) .nil))))) (.cons (.asg (.nm 6) (.ite (.op .gt (.cons (.op .len (.cons (.pk 4) .nil)) (.cons (.cst (.int 0)) .nil))) (.op .lst (.cons (.op .idx (.cons (.pk 4) (.cons (.cst (.int 0)) .nil))) (.cons (.op .len (.cons (.pk 4) .nil)) (.cons (.op .min (.cons (.pk 5) .nil)) (.cons (.op .max (.cons (.pk 5) .nil)) .nil))))) (.op .lst (.cons (.cst .non) (.cons (.cst (.int 0)) (.cons (.cst .non) (.cons (.cst .non) .nil))))))) (.cons (.ife (.nt (.call 15 (.cons (.slB (.call 22 (.cons (.pk 1) (.cons (.pk 2) (.cons (.pk 3) .nil)))) (.cst (.int 4))) (.cons (.pk 6) .nil)))) (.cons (.ret (.cst (.bl false))) .nil) .nil) .nil))))
@[reducible] def L26_1c : E := (.cst (.bl true))
@[reducible] def L26_1 : E := (.op .add (.cons (.pk 7) (.cons (.pk 8) .nil)))
theorem md27 : mdOf tb 27 = [true, true, true] := rfl
theorem u27 (n : Nat) : callD tb WN (n + 1) 27 = runFn WN (callD tb WN n) (mdOf tb) fn__law_are_errors_right := callD_succ rfl
@[reducible] def F27_0 : Ss := (.cons (.asg (.nm 11) (.op .lst (.cons (.lam 20 (.cl 10 [7, 8, 9, 10, 11] (.cons (.pk 6) (.cons (.pk 7) (.cons (.pk 9) .nil))))) (.cons (.lam 20 (.cl 10 [7, 8, 9, 10, 11] (.cons (.pk 1) (.cons (.pk 2) (.cons (.pk 9) .nil))))) .nil)))) (.cons (.ife (.op .ne (.cons (.pk 11) (.cons (.op .lst (.cons (.op .tup (.cons (.cst (.str "coins")) (.cons (.op .neg (.cons (.cst (.int 1)) .nil)) .nil))) (.cons (.cst (.str "number")) .nil))) .nil))) (.cons (.ret (.cst (.bl false))) .nil) .nil) .nil))
theorem md28 : mdOf tb 28 = [true] := rfl
theorem u28 (n : Nat) : callD tb WN (n + 1) 28 = runFn WN (callD tb WN n) (mdOf tb) fn_law := callD_succ rfl
@[reducible] def F28_0 : Ss := (.cons (.asg (.tp [3, 4]) (.call 19 (.cons (.pk 1) (.cons (.pk 2) .nil)))) (.cons (.ife (.op .eq (.cons (.call 13 (.cons (.pk 1) (.cons (.cst (.int 8)) .nil))) (.cons (.cst (.int 0)) .nil))) (.cons (.asg (.nm 3) (.cst (.int 1))) .nil) .nil) (.cons (.ife (.or (.nt (.call 25 (.cons (.pk 1) (.cons (.pk 3) (.cons (.pk 4) .nil))))) (.nt (.call 27 (.cons (.pk 1) (.cons (.pk 3) (.cons (.pk 4) .nil)))))) (.cons (.ret (.cst (.bl false))) .nil) .nil) .nil)))
theorem outs1 {c : Cell} {en : En} : outsOf 1 (c :: en) = [keepB c] := rfl
theorem outs2 {c d : Cell} {en : En} : outsOf 2 (c :: d :: en) = [keepB c, keepB d] := rfl
theorem outs3 {c d e : Cell} {en : En} : outsOf 3 (c :: d :: e :: en) = [keepB c, keepB d, keepB e] := rfl
theorem outs4 {c d e f : Cell} {en : En} : outsOf 4 (c :: d :: e :: f :: en) = [keepB c, keepB d, keepB e, keepB f] := rfl
section
variable {w : Nat} {C : Nat → List (Bool × D) → CRes} {md : Nat → List Bool}
def whlR (w : Nat) (C : Nat → List (Bool × D) → CRes) (md : Nat → List Bool) (c : E) (b : Ss) (n : Nat) (en : En) : Rs Fl := loopW (fun en => toB (evE C md c en)) (fun en => evSs w C md b en) n en
def frR (w : Nat) (C : Nat → List (Bool × D) → CRes) (md : Nat → List Bool) (tg : Tg) (b : Ss) (items : List D) (en : En) : Rs Fl := loopF (fun d en => (stR (stTg tg d false en)).bind fun _ en => evSs w C md b en) items en
def lcR (C : Nat → List (Bool × D) → CRes) (md : Nat → List Bool) (vs : List Nat) (tg : Tg) (c e : E) (items acc : List D) (en : En) : Rs (List D) := loopC vs tg (fun en => toB (evE C md c en)) (fun en => evE C md e en) items acc en
theorem evS_whlR {c : E} {b : Ss} {en : En} : evS w C md (.whl c b) en = whlR w C md c b w en := by rw [evS] <;> rfl
theorem evS_frR {tg : Tg} {k : ItK} {as : Es} {b : Ss} {en : En} : evS w C md (.fr tg k as b) en = (evA C md as en).bind fun avs en => (itFin k avs en).bind fun items en => frR w C md tg b items en := by rw [evS] <;> rfl
theorem evE_lcR {vs : List Nat} {tg : Tg} {k : ItK} {as : Es} {c e : E} {en : En} : evE C md (.lc vs tg k as c e) en = (evA C md as en).bind fun avs en => (itFin k avs en).bind fun items en => if vs.all (shE en) && tg.slots.all vs.contains then
      (lcR C md vs tg c e items [] (wipeE en vs)).bind fun xs en' => .ok (.lst xs, true) (restE en en' vs)
    else .bad := by rw [evE] <;> rfl
theorem whlR_succ {c : E} {b : Ss} {n : Nat} {en : En} : whlR w C md c b (n + 1) en = (toB (evE C md c en)).bind fun k en => if k then (evSs w C md b en).bind fun fl en => match fl with
      | .nx => whlR w C md c b n en
      | .ct => whlR w C md c b n en
      | .br => .ok .nx en
      | .rt d o => .ok (.rt d o) en
    else .ok .nx en := by unfold whlR; rw [loopW] <;> rfl
theorem frR_nil {tg : Tg} {b : Ss} {en : En} : frR w C md tg b [] en = .ok .nx en := by unfold frR; rw [loopF]
theorem frR_cons {tg : Tg} {b : Ss} {d : D} {ds : List D} {en : En} : frR w C md tg b (d :: ds) en = ((stR (stTg tg d false en)).bind fun _ en => evSs w C md b en).bind fun fl en => match fl with
    | .nx => frR w C md tg b ds en
    | .ct => frR w C md tg b ds en
    | .br => .ok .nx en
    | .rt d o => .ok (.rt d o) en := by unfold frR; rw [loopF] <;> rfl
theorem lcR_nil {vs : List Nat} {tg : Tg} {c e : E} {acc : List D} {en : En} : lcR C md vs tg c e [] acc en = .ok acc en := by unfold lcR; rw [loopC]
theorem lcR_cons {vs : List Nat} {tg : Tg} {c e : E} {d : D} {ds acc : List D} {en : En} : lcR C md vs tg c e (d :: ds) acc en = (stR (stTg tg d false en)).bind fun _ en => (noEr (toB (evE C md c en))).bind fun k en =>
      if k then (noEr (evE C md e en)).bind fun p en => if decide (acc.length < sizeLine) then lcR C md vs tg c e ds (acc ++ [p.1]) (wipeE en vs) else .bad
      else lcR C md vs tg c e ds acc (wipeE en vs) := by unfold lcR; rw [loopC]
theorem lcR_map {vs : List Nat} {tg : Tg} {c e : E} {g : D → D} {en0 : En} (items acc : List D) (h : ∀ d ∈ items, ∃ en1, stTg tg d false en0 = some en1 ∧ toB (evE C md c en1) = .ok true en1 ∧ (∃ own, evE C md e en1 = .ok (g d, own) en1) ∧ wipeE en1 vs = en0)
    (hl : acc.length + items.length ≤ sizeLine) : lcR C md vs tg c e items acc en0 = .ok (acc ++ items.map g) en0 := loopC_map items acc h hl
theorem frR_inv {tg : Tg} {b : Ss} (I : En → Prop) (items : List D) (en : En) (hi : I en) (h : ∀ d ∈ items, ∀ en, I en → ∃ en', ((stR (stTg tg d false en)).bind fun _ en => evSs w C md b en) = .ok .nx en' ∧ I en') : ∃ en', frR w C md tg b items en = .ok .nx en' ∧ I en' :=
  loopF_inv I items en hi h
/-- a loop that ends by return at the first item of a kind -/
theorem frR_scan {tg : Tg} {b : Ss} {E : Cell → En} {p : D → Option D} : ∀ (items : List D) (h : ∀ d ∈ items, ∀ c, (c = none ∨ ∃ x, c = some (.sh, x)) → ((stR (stTg tg d false (E c))).bind fun _ en => evSs w C md b en) = .ok (match p d with | some r => .rt r false | none => .nx) (E (some (.sh, d)))) (c : Cell) (hc : c = none ∨ ∃ x, c = some (.sh, x)),
    ∃ c', (c' = none ∨ ∃ x, c' = some (.sh, x)) ∧ frR w C md tg b items (E c) = .ok (match items.findSome? p with | some r => .rt r false | none => .nx) (E c')
  | [], _, c, hc => ⟨c, hc, by rw [frR_nil] <;> rfl⟩
  | d :: ds, h, c, hc => by
    have h1 := h d List.mem_cons_self c hc
    rw [frR_cons, h1]
    cases hp : p d with
    | some r => exact ⟨some (.sh, d), .inr ⟨d, rfl⟩, by simp [List.findSome?_cons, hp]⟩
    | none =>
      obtain ⟨c', k1, k2⟩ := frR_scan ds (fun d hd => h d (List.mem_cons_of_mem _ hd)) (some (.sh, d)) (.inr ⟨d, rfl⟩)
      exact ⟨c', k1, by simp [List.findSome?_cons, hp, k2]⟩
end
theorem lt_sz {n : Nat} (h : n < 100000) : n < sizeLine := by rw [sizeLine_eq]; omega
theorem sz0 : 0 < sizeLine := lt_sz (by decide)
theorem sz1 : 1 < sizeLine := lt_sz (by decide)
theorem sz2 : 2 < sizeLine := lt_sz (by decide)
theorem at30 {x y z : D} : atI [x, y, z] 0 = some x := rfl
theorem at31 {x y z : D} : atI [x, y, z] 1 = some y := rfl
theorem at32 {x y z : D} : atI [x, y, z] 2 = some z := rfl
theorem at20 {x y : D} : atI [x, y] 0 = some x := rfl
theorem at21 {x y : D} : atI [x, y] 1 = some y := rfl
theorem eqD_int {i j : Int} : eqD (.int i) (.int j) = some (decide (i = j)) := by
  show some _ = _
  congr 1
theorem cutA0 {x y z : D} : cut [x, y, z] none (some 0) = [] := rfl
theorem cutA1 {x y z : D} : cut [x, y, z] none (some 1) = [x] := rfl
theorem cutA2 {x y z : D} : cut [x, y, z] none (some 2) = [x, y] := rfl
theorem fit3 : fit 3 = true := by unfold fit; rw [sizeLine_eq]; decide
theorem fit_of {n : Nat} (h : n ≤ 100000) : fit n = true := by unfold fit; rw [sizeLine_eq]; exact decide_eq_true (by omega)
end Law

namespace Law
open PySem PySem.Spec PyProof.Rows L2 L3
/-! ### numbers -/
theorem mulB {i j : Int} (k : Nat) (hk : 0 < k) (hk2 : 2 * k ≤ 1000000) (hi : i.natAbs < 2 ^ k) (hj : j.natAbs < 2 ^ k) : mulOk i j = true := by
  have lg : ∀ n : Nat, n < 2 ^ k → n.log2 < k := fun n h => by
    by_cases h0 : n = 0
    · subst h0; simpa using hk
    · exact (Nat.log2_lt h0).mpr h
  have h1 := lg _ hi
  have h2 := lg _ hj
  unfold mulOk
  rw [Bool.or_eq_true]
  right
  exact decide_eq_true (by omega)
theorem divB {i j : Int} (k : Nat) (hk : k ≤ 9000) (h0 : 0 < j) (hj : j.natAbs < 2 ^ k) : divOk i j = true := by
  unfold divOk
  rw [Bool.or_eq_true]
  right
  refine decide_eq_true ⟨h0, ?_⟩
  have : j.natAbs ≠ 0 := by omega
  exact Nat.lt_of_lt_of_le ((Nat.log2_lt this).mpr hj) hk
/-- Euclid's steps end within -/
def euI : Nat → Int → Int → Bool
  | 0, _, _ => false
  | f + 1, a, b => if b = 0 then true else euI f b (a % b)
theorem euI_ok : ∀ (k f : Nat) (a b : Int), 0 ≤ b → b < 2 ^ k → 2 * k + 1 ≤ f → euI f a b = true
  | 0, f + 1, a, b, h0, h1, _ => by
    have : b = 0 := by simp at h1; omega
    simp [euI, this]
  | k + 1, f + 2, a, b, h0, h1, h2 => by
    unfold euI
    by_cases hb : b = 0
    · simp [hb]
    · rw [if_neg hb]
      have r0 := Int.emod_nonneg a hb
      have r1 := Int.emod_lt_of_pos a (show 0 < b by omega)
      unfold euI
      by_cases hr : a % b = 0
      · rw [if_pos hr]
      · rw [if_neg hr]
        have s0 := Int.emod_nonneg b hr
        have s1 := Int.emod_lt_of_pos b (show 0 < a % b by omega)
        have s2 : b % (a % b) + (a % b) ≤ b := by
          have e := Int.emod_add_mul_ediv b (a % b)
          have q : 1 ≤ b / (a % b) := by
            rw [Int.le_ediv_iff_mul_le (by omega)]; omega
          have := Int.mul_le_mul_of_nonneg_left q r0
          omega
        rw [Int.pow_succ] at h1
        exact euI_ok k f _ _ s0 (by omega) (by omega)
  | 0, 0, _, _, _, _, h => absurd h (by omega)
  | k + 1, 0, _, _, _, _, h => absurd h (by omega)
  | k + 1, 1, _, _, _, _, h => absurd h (by omega)
/-- the greatest common divisor -/
def IsG (g a b : Int) : Prop := 0 ≤ g ∧ ∀ d : Int, d ∣ g ↔ d ∣ a ∧ d ∣ b
def Co (a b : Int) : Prop := ∀ d : Int, d ∣ a → d ∣ b → d ∣ 1
theorem Co.symm {a b : Int} (h : Co a b) : Co b a := fun d x y => h d y x
theorem IsG.symm {g a b : Int} (h : IsG g a b) : IsG g b a := ⟨h.1, fun d => (h.2 d).trans and_comm⟩
theorem isG_zero {a : Int} (h : 0 ≤ a) : IsG a a 0 := ⟨h, fun d => ⟨fun x => ⟨x, Int.dvd_zero d⟩, fun x => x.1⟩⟩
theorem dvd_mod {d a b : Int} (hb : d ∣ b) : d ∣ a % b ↔ d ∣ a := by
  have e := Int.emod_add_mul_ediv a b
  constructor
  · intro h
    rw [← e]
    exact Int.dvd_add h (Int.dvd_trans hb ⟨_, rfl⟩)
  · intro h
    have : a % b = a - b * (a / b) := by omega
    rw [this]
    exact Int.dvd_sub h (Int.dvd_trans hb ⟨_, rfl⟩)
theorem IsG.step {g a b : Int} (h : IsG g b (a % b)) : IsG g a b := ⟨h.1, fun d => by
  rw [h.2]
  constructor
  · rintro ⟨x, y⟩; exact ⟨(dvd_mod x).mp y, x⟩
  · rintro ⟨x, y⟩; exact ⟨y, (dvd_mod y).mpr x⟩⟩
theorem IsG.one {g a b : Int} (h : IsG g a b) : g = 1 ↔ Co a b := by
  constructor
  · rintro rfl d x y
    exact (h.2 d).mpr ⟨x, y⟩
  · intro c
    obtain ⟨x, y⟩ := (h.2 g).mp (Int.dvd_refl g)
    have := c g x y
    obtain ⟨z, e⟩ := this
    have h0 := h.1
    have := Int.eq_one_of_mul_eq_one_right h0 e.symm
    exact this
abbrev CR := Nat → List (Bool × D) → CRes
theorem gcd1_loop (C : CR) (x : Nat) : ∀ (f : Nat) (a b : Int), euI f a b = true → 0 ≤ a → 0 ≤ b → ∃ g, IsG g a b ∧ whlR WN C (mdOf tb) W1_0c W1_0 (f + x) [some (.sh, .int a), some (.sh, .int b)] = .ok .nx [some (.sh, .int g), some (.sh, .int 0)]
  | 0, _, _, h, _, _ => by cases h
  | f + 1, a, b, h, ha, hb => by
    unfold euI at h
    rw [Nat.add_right_comm, whlR_succ]
    by_cases hb0 : b = 0
    · subst hb0
      exact ⟨a, isG_zero ha, by simp [L3.evSs, L3.evS.eq_1, L3.evS.eq_2, L3.evS.eq_3, L3.evS.eq_4, L3.evS.eq_5, L3.evS.eq_6, L3.evS.eq_9, L3.evS.eq_10, L3.evS.eq_11, L3.evS.eq_12, L3.evS.eq_13, L3.evS.eq_14, L3.evE.eq_1, L3.evE.eq_2, L3.evE.eq_3, L3.evE.eq_4, L3.evE.eq_5, L3.evE.eq_6, L3.evE.eq_7, L3.evE.eq_8, L3.evE.eq_9, L3.evE.eq_10, L3.evE.eq_11, L3.evE.eq_12, L3.evE.eq_13, L3.evE.eq_14, L3.evE.eq_15, L3.evE.eq_16, L3.evE.eq_18, L3.evE.eq_19, L3.evE.eq_20, L3.evE.eq_21, L3.evA, L3.evP, Law.evS_whlR, Law.evS_frR, Law.evE_lcR, Law.frR_nil, Law.frR_cons, Law.lcR_nil, Law.lcR_cons, L3.argOf, L3.Rs.bind, L3.opFin, L3.avDs, L3.avD, L3.vDs, L3.Op.keeps, L3.Op.run, L3.i1, L3.i2, L3.a1, L3.a2, L3.l1, L3.gd, L3.oB, L3.oI, L3.toB, L3.toI, L3.rdVar, L3.mvVar, L3.stVar, L3.stR, L3.stTg, L3.stVars, L3.stVarsO, L3.passA, L3.backA, L3.doCall, L3.cellOf, L3.start3, Law.outs1, Law.outs2, Law.outs3, Law.outs4, L3.resOf, L3.runFn, L3.keepB, L3.Ow.isB, L3.Ow.isOwn, L3.isTys, L3.isTy, L3.itFin, L3.ItK.run, L3.kRng1, L3.kRng2, L3.kSeq, L3.seqD, L3.seqD2, L3.kEnm, L3.enmD, Law.fit_of, Law.fit3, L3.noEr, L3.slFin, L3.slice3, L3.shE, L3.Tg.slots, L3.wipeE, L3.restE, L3.asB, Law.sz0, Law.sz1, Law.sz2, L3.rAdd3, L3.rLen3, L3.rLt3, L3.rIdx3, Law.at30, Law.at31, Law.at32, Law.at20, Law.at21, L3.isNone, Law.eqD_int, Law.md0, Law.md1, Law.md2, Law.md3, Law.md4, Law.md5, Law.md6, Law.md7, Law.md8, Law.md9, Law.md10, Law.md11, Law.md12, Law.md13, Law.md14, Law.md15, Law.md16, Law.md17, Law.md18, Law.md19, Law.md20, Law.md21, Law.md22, Law.md23, Law.md24, Law.md25, Law.md26, Law.md27, Law.md28, W1_0c]⟩
    · rw [if_neg hb0] at h
      have hb2 : 0 < b := by omega
      obtain ⟨g, h1, h2⟩ := gcd1_loop C x f b (a % b) h hb (Int.emod_nonneg _ hb0)
      exact ⟨g, h1.step, by simp [L3.evSs, L3.evS.eq_1, L3.evS.eq_2, L3.evS.eq_3, L3.evS.eq_4, L3.evS.eq_5, L3.evS.eq_6, L3.evS.eq_9, L3.evS.eq_10, L3.evS.eq_11, L3.evS.eq_12, L3.evS.eq_13, L3.evS.eq_14, L3.evE.eq_1, L3.evE.eq_2, L3.evE.eq_3, L3.evE.eq_4, L3.evE.eq_5, L3.evE.eq_6, L3.evE.eq_7, L3.evE.eq_8, L3.evE.eq_9, L3.evE.eq_10, L3.evE.eq_11, L3.evE.eq_12, L3.evE.eq_13, L3.evE.eq_14, L3.evE.eq_15, L3.evE.eq_16, L3.evE.eq_18, L3.evE.eq_19, L3.evE.eq_20, L3.evE.eq_21, L3.evA, L3.evP, Law.evS_whlR, Law.evS_frR, Law.evE_lcR, Law.frR_nil, Law.frR_cons, Law.lcR_nil, Law.lcR_cons, L3.argOf, L3.Rs.bind, L3.opFin, L3.avDs, L3.avD, L3.vDs, L3.Op.keeps, L3.Op.run, L3.i1, L3.i2, L3.a1, L3.a2, L3.l1, L3.gd, L3.oB, L3.oI, L3.toB, L3.toI, L3.rdVar, L3.mvVar, L3.stVar, L3.stR, L3.stTg, L3.stVars, L3.stVarsO, L3.passA, L3.backA, L3.doCall, L3.cellOf, L3.start3, Law.outs1, Law.outs2, Law.outs3, Law.outs4, L3.resOf, L3.runFn, L3.keepB, L3.Ow.isB, L3.Ow.isOwn, L3.isTys, L3.isTy, L3.itFin, L3.ItK.run, L3.kRng1, L3.kRng2, L3.kSeq, L3.seqD, L3.seqD2, L3.kEnm, L3.enmD, Law.fit_of, Law.fit3, L3.noEr, L3.slFin, L3.slice3, L3.shE, L3.Tg.slots, L3.wipeE, L3.restE, L3.asB, Law.sz0, Law.sz1, Law.sz2, L3.rAdd3, L3.rLen3, L3.rLt3, L3.rIdx3, Law.at30, Law.at31, Law.at32, Law.at20, Law.at21, L3.isNone, Law.eqD_int, Law.md0, Law.md1, Law.md2, Law.md3, Law.md4, Law.md5, Law.md6, Law.md7, Law.md8, Law.md9, Law.md10, Law.md11, Law.md12, Law.md13, Law.md14, Law.md15, Law.md16, Law.md17, Law.md18, Law.md19, Law.md20, Law.md21, Law.md22, Law.md23, Law.md24, Law.md25, Law.md26, Law.md27, Law.md28, W1_0c, W1_0, hb2, h2]⟩
theorem gcd2_loop (C : CR) (x : Nat) : ∀ (f : Nat) (a b : Int), euI f a b = true → 0 ≤ a → 0 ≤ b → ∃ g, IsG g a b ∧ whlR WN C (mdOf tb) W16_0c W16_0 (f + x) [some (.sh, .int a), some (.sh, .int b)] = .ok .nx [some (.sh, .int g), some (.sh, .int 0)]
  | 0, _, _, h, _, _ => by cases h
  | f + 1, a, b, h, ha, hb => by
    unfold euI at h
    rw [Nat.add_right_comm, whlR_succ]
    by_cases hb0 : b = 0
    · subst hb0
      exact ⟨a, isG_zero ha, by simp [L3.evSs, L3.evS.eq_1, L3.evS.eq_2, L3.evS.eq_3, L3.evS.eq_4, L3.evS.eq_5, L3.evS.eq_6, L3.evS.eq_9, L3.evS.eq_10, L3.evS.eq_11, L3.evS.eq_12, L3.evS.eq_13, L3.evS.eq_14, L3.evE.eq_1, L3.evE.eq_2, L3.evE.eq_3, L3.evE.eq_4, L3.evE.eq_5, L3.evE.eq_6, L3.evE.eq_7, L3.evE.eq_8, L3.evE.eq_9, L3.evE.eq_10, L3.evE.eq_11, L3.evE.eq_12, L3.evE.eq_13, L3.evE.eq_14, L3.evE.eq_15, L3.evE.eq_16, L3.evE.eq_18, L3.evE.eq_19, L3.evE.eq_20, L3.evE.eq_21, L3.evA, L3.evP, Law.evS_whlR, Law.evS_frR, Law.evE_lcR, Law.frR_nil, Law.frR_cons, Law.lcR_nil, Law.lcR_cons, L3.argOf, L3.Rs.bind, L3.opFin, L3.avDs, L3.avD, L3.vDs, L3.Op.keeps, L3.Op.run, L3.i1, L3.i2, L3.a1, L3.a2, L3.l1, L3.gd, L3.oB, L3.oI, L3.toB, L3.toI, L3.rdVar, L3.mvVar, L3.stVar, L3.stR, L3.stTg, L3.stVars, L3.stVarsO, L3.passA, L3.backA, L3.doCall, L3.cellOf, L3.start3, Law.outs1, Law.outs2, Law.outs3, Law.outs4, L3.resOf, L3.runFn, L3.keepB, L3.Ow.isB, L3.Ow.isOwn, L3.isTys, L3.isTy, L3.itFin, L3.ItK.run, L3.kRng1, L3.kRng2, L3.kSeq, L3.seqD, L3.seqD2, L3.kEnm, L3.enmD, Law.fit_of, Law.fit3, L3.noEr, L3.slFin, L3.slice3, L3.shE, L3.Tg.slots, L3.wipeE, L3.restE, L3.asB, Law.sz0, Law.sz1, Law.sz2, L3.rAdd3, L3.rLen3, L3.rLt3, L3.rIdx3, Law.at30, Law.at31, Law.at32, Law.at20, Law.at21, L3.isNone, Law.eqD_int, Law.md0, Law.md1, Law.md2, Law.md3, Law.md4, Law.md5, Law.md6, Law.md7, Law.md8, Law.md9, Law.md10, Law.md11, Law.md12, Law.md13, Law.md14, Law.md15, Law.md16, Law.md17, Law.md18, Law.md19, Law.md20, Law.md21, Law.md22, Law.md23, Law.md24, Law.md25, Law.md26, Law.md27, Law.md28, W16_0c]⟩
    · rw [if_neg hb0] at h
      have hb2 : 0 < b := by omega
      obtain ⟨g, h1, h2⟩ := gcd2_loop C x f b (a % b) h hb (Int.emod_nonneg _ hb0)
      exact ⟨g, h1.step, by simp [L3.evSs, L3.evS.eq_1, L3.evS.eq_2, L3.evS.eq_3, L3.evS.eq_4, L3.evS.eq_5, L3.evS.eq_6, L3.evS.eq_9, L3.evS.eq_10, L3.evS.eq_11, L3.evS.eq_12, L3.evS.eq_13, L3.evS.eq_14, L3.evE.eq_1, L3.evE.eq_2, L3.evE.eq_3, L3.evE.eq_4, L3.evE.eq_5, L3.evE.eq_6, L3.evE.eq_7, L3.evE.eq_8, L3.evE.eq_9, L3.evE.eq_10, L3.evE.eq_11, L3.evE.eq_12, L3.evE.eq_13, L3.evE.eq_14, L3.evE.eq_15, L3.evE.eq_16, L3.evE.eq_18, L3.evE.eq_19, L3.evE.eq_20, L3.evE.eq_21, L3.evA, L3.evP, Law.evS_whlR, Law.evS_frR, Law.evE_lcR, Law.frR_nil, Law.frR_cons, Law.lcR_nil, Law.lcR_cons, L3.argOf, L3.Rs.bind, L3.opFin, L3.avDs, L3.avD, L3.vDs, L3.Op.keeps, L3.Op.run, L3.i1, L3.i2, L3.a1, L3.a2, L3.l1, L3.gd, L3.oB, L3.oI, L3.toB, L3.toI, L3.rdVar, L3.mvVar, L3.stVar, L3.stR, L3.stTg, L3.stVars, L3.stVarsO, L3.passA, L3.backA, L3.doCall, L3.cellOf, L3.start3, Law.outs1, Law.outs2, Law.outs3, Law.outs4, L3.resOf, L3.runFn, L3.keepB, L3.Ow.isB, L3.Ow.isOwn, L3.isTys, L3.isTy, L3.itFin, L3.ItK.run, L3.kRng1, L3.kRng2, L3.kSeq, L3.seqD, L3.seqD2, L3.kEnm, L3.enmD, Law.fit_of, Law.fit3, L3.noEr, L3.slFin, L3.slice3, L3.shE, L3.Tg.slots, L3.wipeE, L3.restE, L3.asB, Law.sz0, Law.sz1, Law.sz2, L3.rAdd3, L3.rLen3, L3.rLt3, L3.rIdx3, Law.at30, Law.at31, Law.at32, Law.at20, Law.at21, L3.isNone, Law.eqD_int, Law.md0, Law.md1, Law.md2, Law.md3, Law.md4, Law.md5, Law.md6, Law.md7, Law.md8, Law.md9, Law.md10, Law.md11, Law.md12, Law.md13, Law.md14, Law.md15, Law.md16, Law.md17, Law.md18, Law.md19, Law.md20, Law.md21, Law.md22, Law.md23, Law.md24, Law.md25, Law.md26, Law.md27, Law.md28, W16_0c, W16_0, hb2, h2]⟩
/-- a coin -/
abbrev MS : Int := 10000000000000000000000000000000000000000000000000000000000000000000000000000000000000000000000000000
def Coin (a : Int) : Prop := 1 ≤ a ∧ a ≤ MS
theorem Coin.lt {a : Int} (h : Coin a) : a < 2 ^ 333 := Int.lt_of_le_of_lt h.2 (by decide)
theorem Coin.eu {b : Int} (h : Coin b) (a : Int) : euI 667 a b = true := euI_ok 333 667 a b (by have := h.1; omega) h.lt (by decide)
theorem c_common (n : Nat) {a b : Int} (ha : Coin a) (hb : Coin b) : ∃ g, IsG g a b ∧ callD tb WN (n + 1) 1 [(false, .int a), (false, .int b)] = .ok (.int g) false [none, none] := by
  obtain ⟨g, h1, h2⟩ := gcd1_loop (callD tb WN n) 19333 667 a b (hb.eu a) (by have := ha.1; omega) (by have := hb.1; omega)
  refine ⟨g, h1, ?_⟩
  rw [u1]; unfold fn_common
  have ha : ¬ (a < 0) := by have := ha.1; omega
  have hb : ¬ (b < 0) := by have := hb.1; omega
  simp [L3.evSs, L3.evS.eq_1, L3.evS.eq_2, L3.evS.eq_3, L3.evS.eq_4, L3.evS.eq_5, L3.evS.eq_6, L3.evS.eq_9, L3.evS.eq_10, L3.evS.eq_11, L3.evS.eq_12, L3.evS.eq_13, L3.evS.eq_14, L3.evE.eq_1, L3.evE.eq_2, L3.evE.eq_3, L3.evE.eq_4, L3.evE.eq_5, L3.evE.eq_6, L3.evE.eq_7, L3.evE.eq_8, L3.evE.eq_9, L3.evE.eq_10, L3.evE.eq_11, L3.evE.eq_12, L3.evE.eq_13, L3.evE.eq_14, L3.evE.eq_15, L3.evE.eq_16, L3.evE.eq_18, L3.evE.eq_19, L3.evE.eq_20, L3.evE.eq_21, L3.evA, L3.evP, Law.evS_whlR, Law.evS_frR, Law.evE_lcR, Law.frR_nil, Law.frR_cons, Law.lcR_nil, Law.lcR_cons, L3.argOf, L3.Rs.bind, L3.opFin, L3.avDs, L3.avD, L3.vDs, L3.Op.keeps, L3.Op.run, L3.i1, L3.i2, L3.a1, L3.a2, L3.l1, L3.gd, L3.oB, L3.oI, L3.toB, L3.toI, L3.rdVar, L3.mvVar, L3.stVar, L3.stR, L3.stTg, L3.stVars, L3.stVarsO, L3.passA, L3.backA, L3.doCall, L3.cellOf, L3.start3, Law.outs1, Law.outs2, Law.outs3, Law.outs4, L3.resOf, L3.runFn, L3.keepB, L3.Ow.isB, L3.Ow.isOwn, L3.isTys, L3.isTy, L3.itFin, L3.ItK.run, L3.kRng1, L3.kRng2, L3.kSeq, L3.seqD, L3.seqD2, L3.kEnm, L3.enmD, Law.fit_of, Law.fit3, L3.noEr, L3.slFin, L3.slice3, L3.shE, L3.Tg.slots, L3.wipeE, L3.restE, L3.asB, Law.sz0, Law.sz1, Law.sz2, L3.rAdd3, L3.rLen3, L3.rLt3, L3.rIdx3, Law.at30, Law.at31, Law.at32, Law.at20, Law.at21, L3.isNone, Law.eqD_int, Law.md0, Law.md1, Law.md2, Law.md3, Law.md4, Law.md5, Law.md6, Law.md7, Law.md8, Law.md9, Law.md10, Law.md11, Law.md12, Law.md13, Law.md14, Law.md15, Law.md16, Law.md17, Law.md18, Law.md19, Law.md20, Law.md21, Law.md22, Law.md23, Law.md24, Law.md25, Law.md26, Law.md27, Law.md28, ha, hb, h2]
theorem c_gcd (n : Nat) {a b : Int} (ha : Coin a) (hb : Coin b) : ∃ g, IsG g a b ∧ callD tb WN (n + 1) 16 [(false, .int a), (false, .int b)] = .ok (.int g) false [none, none] := by
  obtain ⟨g, h1, h2⟩ := gcd2_loop (callD tb WN n) 19333 667 a b (hb.eu a) (by have := ha.1; omega) (by have := hb.1; omega)
  refine ⟨g, h1, ?_⟩
  rw [u16]; unfold fn__law_gcd
  simp [L3.evSs, L3.evS.eq_1, L3.evS.eq_2, L3.evS.eq_3, L3.evS.eq_4, L3.evS.eq_5, L3.evS.eq_6, L3.evS.eq_9, L3.evS.eq_10, L3.evS.eq_11, L3.evS.eq_12, L3.evS.eq_13, L3.evS.eq_14, L3.evE.eq_1, L3.evE.eq_2, L3.evE.eq_3, L3.evE.eq_4, L3.evE.eq_5, L3.evE.eq_6, L3.evE.eq_7, L3.evE.eq_8, L3.evE.eq_9, L3.evE.eq_10, L3.evE.eq_11, L3.evE.eq_12, L3.evE.eq_13, L3.evE.eq_14, L3.evE.eq_15, L3.evE.eq_16, L3.evE.eq_18, L3.evE.eq_19, L3.evE.eq_20, L3.evE.eq_21, L3.evA, L3.evP, Law.evS_whlR, Law.evS_frR, Law.evE_lcR, Law.frR_nil, Law.frR_cons, Law.lcR_nil, Law.lcR_cons, L3.argOf, L3.Rs.bind, L3.opFin, L3.avDs, L3.avD, L3.vDs, L3.Op.keeps, L3.Op.run, L3.i1, L3.i2, L3.a1, L3.a2, L3.l1, L3.gd, L3.oB, L3.oI, L3.toB, L3.toI, L3.rdVar, L3.mvVar, L3.stVar, L3.stR, L3.stTg, L3.stVars, L3.stVarsO, L3.passA, L3.backA, L3.doCall, L3.cellOf, L3.start3, Law.outs1, Law.outs2, Law.outs3, Law.outs4, L3.resOf, L3.runFn, L3.keepB, L3.Ow.isB, L3.Ow.isOwn, L3.isTys, L3.isTy, L3.itFin, L3.ItK.run, L3.kRng1, L3.kRng2, L3.kSeq, L3.seqD, L3.seqD2, L3.kEnm, L3.enmD, Law.fit_of, Law.fit3, L3.noEr, L3.slFin, L3.slice3, L3.shE, L3.Tg.slots, L3.wipeE, L3.restE, L3.asB, Law.sz0, Law.sz1, Law.sz2, L3.rAdd3, L3.rLen3, L3.rLt3, L3.rIdx3, Law.at30, Law.at31, Law.at32, Law.at20, Law.at21, L3.isNone, Law.eqD_int, Law.md0, Law.md1, Law.md2, Law.md3, Law.md4, Law.md5, Law.md6, Law.md7, Law.md8, Law.md9, Law.md10, Law.md11, Law.md12, Law.md13, Law.md14, Law.md15, Law.md16, Law.md17, Law.md18, Law.md19, Law.md20, Law.md21, Law.md22, Law.md23, Law.md24, Law.md25, Law.md26, Law.md27, Law.md28, h2]
end Law

namespace Law
open PySem PySem.Spec PyProof.Rows L2 L3
theorem pow_step {x y f : Int} {e : Nat} (hx : x.natAbs < 2 ^ e) (hy : y.natAbs < 2 ^ e) (hf : f.natAbs < 2 ^ 333) : (x - f * y).natAbs < 2 ^ (e + 334) := by
  have h1 : (f * y).natAbs ≤ 2 ^ 333 * 2 ^ e := by rw [Int.natAbs_mul]; exact Nat.mul_le_mul (Nat.le_of_lt hf) (Nat.le_of_lt hy)
  have h2 : (x - f * y).natAbs ≤ x.natAbs + (f * y).natAbs := Int.natAbs_sub_le x (f * y)
  have h3 : 2 ^ (e + 334) = 2 ^ 333 * 2 ^ e + 2 ^ 333 * 2 ^ e := by
    rw [Nat.add_comm, Nat.pow_add, show (334 : Nat) = 333 + 1 from rfl, Nat.pow_succ]
    generalize 2 ^ 333 = p
    generalize 2 ^ e = q
    rw [Nat.mul_assoc, Nat.mul_comm 2 q, ← Nat.mul_assoc]; omega
  have h4 : 2 ^ e ≤ 2 ^ 333 * 2 ^ e := Nat.le_mul_of_pos_left _ (Nat.pow_pos (by decide))
  omega
theorem pow_mono {x : Int} {e : Nat} (d : Nat) (hx : x.natAbs < 2 ^ e) : x.natAbs < 2 ^ (e + d) := Nat.lt_of_lt_of_le hx (Nat.pow_le_pow_right (by decide) (by omega))
/-- x times one is a, but for the modulus -/
def Cg (m one x a : Int) : Prop := m ∣ x * one - a
theorem Cg.step {m one x y a b f : Int} (hx : Cg m one x a) (hy : Cg m one y b) : Cg m one (x - f * y) (a - f * b) := by
  unfold Cg at *
  have : (x - f * y) * one - (a - f * b) = (x * one - a) - f * (y * one - b) := by
    rw [Int.sub_mul, Int.mul_sub, Int.mul_assoc]; omega
  rw [this]
  exact Int.dvd_sub hx (Int.dvd_trans hy (Int.dvd_mul_left _ _))
theorem nat_lt {a : Int} (h0 : 0 ≤ a) (h : a < 2 ^ 333) : a.natAbs < 2 ^ 333 := by
  have : ((a.natAbs : Nat) : Int) = a := Int.natAbs_of_nonneg h0
  have h2 : ((a.natAbs : Nat) : Int) < ((2 ^ 333 : Nat) : Int) := by rw [this]; exact h
  exact Int.ofNat_lt.mp h2
theorem fac_lt {a b : Int} (h0 : 0 ≤ a) (h : a < 2 ^ 333) (hb : 0 < b) : (a / b).natAbs < 2 ^ 333 :=
  nat_lt (Int.ediv_nonneg h0 (by omega)) (Int.lt_of_le_of_lt (Int.ediv_le_self b h0) h)
theorem sub_mod (a b : Int) : a - a / b * b = a % b := by
  have := Int.emod_add_mul_ediv a b
  rw [Int.mul_comm] at this; omega
theorem inv_loop (C : CR) (one m : Int) (z : Nat) : ∀ (f : Nat) (a b x y : Int) (e : Nat) (c6 : Cell), (c6 = none ∨ ∃ d, c6 = some (.sh, d)) → euI f a b = true → 0 ≤ a → 0 ≤ b → a < 2 ^ 333 → b < 2 ^ 333 → x.natAbs < 2 ^ e → y.natAbs < 2 ^ e → 333 ≤ e → e + 334 * f ≤ 500000 → Cg m one x a → Cg m one y b →
    ∃ g x' y' c6', IsG g a b ∧ Cg m one x' g ∧ whlR WN C (mdOf tb) W5_0c W5_0 (f + z) [some (.sh, .int one), some (.sh, .int m), some (.sh, .int x), some (.sh, .int y), some (.sh, .int a), some (.sh, .int b), c6] = .ok .nx [some (.sh, .int one), some (.sh, .int m), some (.sh, .int x'), some (.sh, .int y'), some (.sh, .int g), some (.sh, .int 0), c6']
  | 0, _, _, _, _, _, _, _, h, _, _, _, _, _, _, _, _, _, _ => by cases h
  | f + 1, a, b, x, y, e, c6, h6, h, ha, hb, la, lb, hx, hy, he, hf, gx, gy => by
    unfold euI at h
    rw [Nat.add_right_comm, whlR_succ]
    by_cases hb0 : b = 0
    · subst hb0
      exact ⟨a, x, y, c6, isG_zero ha, gx, by simp [L3.evSs, L3.evS.eq_1, L3.evS.eq_2, L3.evS.eq_3, L3.evS.eq_4, L3.evS.eq_5, L3.evS.eq_6, L3.evS.eq_9, L3.evS.eq_10, L3.evS.eq_11, L3.evS.eq_12, L3.evS.eq_13, L3.evS.eq_14, L3.evE.eq_1, L3.evE.eq_2, L3.evE.eq_3, L3.evE.eq_4, L3.evE.eq_5, L3.evE.eq_6, L3.evE.eq_7, L3.evE.eq_8, L3.evE.eq_9, L3.evE.eq_10, L3.evE.eq_11, L3.evE.eq_12, L3.evE.eq_13, L3.evE.eq_14, L3.evE.eq_15, L3.evE.eq_16, L3.evE.eq_18, L3.evE.eq_19, L3.evE.eq_20, L3.evE.eq_21, L3.evA, L3.evP, Law.evS_whlR, Law.evS_frR, Law.evE_lcR, Law.frR_nil, Law.frR_cons, Law.lcR_nil, Law.lcR_cons, L3.argOf, L3.Rs.bind, L3.opFin, L3.avDs, L3.avD, L3.vDs, L3.Op.keeps, L3.Op.run, L3.i1, L3.i2, L3.a1, L3.a2, L3.l1, L3.gd, L3.oB, L3.oI, L3.toB, L3.toI, L3.rdVar, L3.mvVar, L3.stVar, L3.stR, L3.stTg, L3.stVars, L3.stVarsO, L3.passA, L3.backA, L3.doCall, L3.cellOf, L3.start3, Law.outs1, Law.outs2, Law.outs3, Law.outs4, L3.resOf, L3.runFn, L3.keepB, L3.Ow.isB, L3.Ow.isOwn, L3.isTys, L3.isTy, L3.itFin, L3.ItK.run, L3.kRng1, L3.kRng2, L3.kSeq, L3.seqD, L3.seqD2, L3.kEnm, L3.enmD, Law.fit_of, Law.fit3, L3.noEr, L3.slFin, L3.slice3, L3.shE, L3.Tg.slots, L3.wipeE, L3.restE, L3.asB, Law.sz0, Law.sz1, Law.sz2, L3.rAdd3, L3.rLen3, L3.rLt3, L3.rIdx3, Law.at30, Law.at31, Law.at32, Law.at20, Law.at21, L3.isNone, Law.eqD_int, Law.md0, Law.md1, Law.md2, Law.md3, Law.md4, Law.md5, Law.md6, Law.md7, Law.md8, Law.md9, Law.md10, Law.md11, Law.md12, Law.md13, Law.md14, Law.md15, Law.md16, Law.md17, Law.md18, Law.md19, Law.md20, Law.md21, Law.md22, Law.md23, Law.md24, Law.md25, Law.md26, Law.md27, Law.md28, W5_0c]⟩
    · rw [if_neg hb0] at h
      have hb2 : 0 < b := by omega
      have d1 : divOk a b = true := divB 333 (by decide) hb2 (nat_lt hb lb)
      have m1 : mulOk (a / b) b = true := mulB 333 (by decide) (by decide) (fac_lt ha la hb2) (nat_lt hb lb)
      have m2 : mulOk (a / b) y = true := mulB e (by omega) (by omega) (Nat.lt_of_lt_of_le (fac_lt ha la hb2) (Nat.pow_le_pow_right (by decide) he)) hy
      obtain ⟨g, x', y', c6', h1, h2, h3⟩ := inv_loop C one m z f b (a % b) y (x - a / b * y) (e + 334) (some (.sh, .int (a / b))) (.inr ⟨_, rfl⟩) h hb (Int.emod_nonneg _ hb0) lb (Int.lt_trans (Int.emod_lt_of_pos _ hb2) lb) (pow_mono 334 hy) (pow_step hx hy (fac_lt ha la hb2)) (by omega) (by omega) gy (by
        have := gx.step (f := a / b) gy
        rw [sub_mod] at this
        exact this)
      refine ⟨g, x', y', c6', h1.step, h2, ?_⟩
      rw [← sub_mod] at h3
      rcases h6 with rfl | ⟨_, rfl⟩ <;> simp [L3.evSs, L3.evS.eq_1, L3.evS.eq_2, L3.evS.eq_3, L3.evS.eq_4, L3.evS.eq_5, L3.evS.eq_6, L3.evS.eq_9, L3.evS.eq_10, L3.evS.eq_11, L3.evS.eq_12, L3.evS.eq_13, L3.evS.eq_14, L3.evE.eq_1, L3.evE.eq_2, L3.evE.eq_3, L3.evE.eq_4, L3.evE.eq_5, L3.evE.eq_6, L3.evE.eq_7, L3.evE.eq_8, L3.evE.eq_9, L3.evE.eq_10, L3.evE.eq_11, L3.evE.eq_12, L3.evE.eq_13, L3.evE.eq_14, L3.evE.eq_15, L3.evE.eq_16, L3.evE.eq_18, L3.evE.eq_19, L3.evE.eq_20, L3.evE.eq_21, L3.evA, L3.evP, Law.evS_whlR, Law.evS_frR, Law.evE_lcR, Law.frR_nil, Law.frR_cons, Law.lcR_nil, Law.lcR_cons, L3.argOf, L3.Rs.bind, L3.opFin, L3.avDs, L3.avD, L3.vDs, L3.Op.keeps, L3.Op.run, L3.i1, L3.i2, L3.a1, L3.a2, L3.l1, L3.gd, L3.oB, L3.oI, L3.toB, L3.toI, L3.rdVar, L3.mvVar, L3.stVar, L3.stR, L3.stTg, L3.stVars, L3.stVarsO, L3.passA, L3.backA, L3.doCall, L3.cellOf, L3.start3, Law.outs1, Law.outs2, Law.outs3, Law.outs4, L3.resOf, L3.runFn, L3.keepB, L3.Ow.isB, L3.Ow.isOwn, L3.isTys, L3.isTy, L3.itFin, L3.ItK.run, L3.kRng1, L3.kRng2, L3.kSeq, L3.seqD, L3.seqD2, L3.kEnm, L3.enmD, Law.fit_of, Law.fit3, L3.noEr, L3.slFin, L3.slice3, L3.shE, L3.Tg.slots, L3.wipeE, L3.restE, L3.asB, Law.sz0, Law.sz1, Law.sz2, L3.rAdd3, L3.rLen3, L3.rLt3, L3.rIdx3, Law.at30, Law.at31, Law.at32, Law.at20, Law.at21, L3.isNone, Law.eqD_int, Law.md0, Law.md1, Law.md2, Law.md3, Law.md4, Law.md5, Law.md6, Law.md7, Law.md8, Law.md9, Law.md10, Law.md11, Law.md12, Law.md13, Law.md14, Law.md15, Law.md16, Law.md17, Law.md18, Law.md19, Law.md20, Law.md21, Law.md22, Law.md23, Law.md24, Law.md25, Law.md26, Law.md27, Law.md28, W5_0c, W5_0, hb0, d1, m1, m2, h3]
theorem tur_loop (C : CR) (one m : Int) (z : Nat) : ∀ (f : Nat) (a b x y : Int) (e : Nat) (c6 : Cell), (c6 = none ∨ ∃ d, c6 = some (.sh, d)) → euI f a b = true → 0 ≤ a → 0 ≤ b → a < 2 ^ 333 → b < 2 ^ 333 → x.natAbs < 2 ^ e → y.natAbs < 2 ^ e → 333 ≤ e → e + 334 * f ≤ 500000 → Cg m one x a → Cg m one y b →
    ∃ g x' y' c6', IsG g a b ∧ Cg m one x' g ∧ whlR WN C (mdOf tb) W17_0c W17_0 (f + z) [some (.sh, .int one), some (.sh, .int m), some (.sh, .int a), some (.sh, .int b), some (.sh, .int x), some (.sh, .int y), c6] = .ok .nx [some (.sh, .int one), some (.sh, .int m), some (.sh, .int g), some (.sh, .int 0), some (.sh, .int x'), some (.sh, .int y'), c6']
  | 0, _, _, _, _, _, _, _, h, _, _, _, _, _, _, _, _, _, _ => by cases h
  | f + 1, a, b, x, y, e, c6, h6, h, ha, hb, la, lb, hx, hy, he, hf, gx, gy => by
    unfold euI at h
    rw [Nat.add_right_comm, whlR_succ]
    by_cases hb0 : b = 0
    · subst hb0
      exact ⟨a, x, y, c6, isG_zero ha, gx, by simp [L3.evSs, L3.evS.eq_1, L3.evS.eq_2, L3.evS.eq_3, L3.evS.eq_4, L3.evS.eq_5, L3.evS.eq_6, L3.evS.eq_9, L3.evS.eq_10, L3.evS.eq_11, L3.evS.eq_12, L3.evS.eq_13, L3.evS.eq_14, L3.evE.eq_1, L3.evE.eq_2, L3.evE.eq_3, L3.evE.eq_4, L3.evE.eq_5, L3.evE.eq_6, L3.evE.eq_7, L3.evE.eq_8, L3.evE.eq_9, L3.evE.eq_10, L3.evE.eq_11, L3.evE.eq_12, L3.evE.eq_13, L3.evE.eq_14, L3.evE.eq_15, L3.evE.eq_16, L3.evE.eq_18, L3.evE.eq_19, L3.evE.eq_20, L3.evE.eq_21, L3.evA, L3.evP, Law.evS_whlR, Law.evS_frR, Law.evE_lcR, Law.frR_nil, Law.frR_cons, Law.lcR_nil, Law.lcR_cons, L3.argOf, L3.Rs.bind, L3.opFin, L3.avDs, L3.avD, L3.vDs, L3.Op.keeps, L3.Op.run, L3.i1, L3.i2, L3.a1, L3.a2, L3.l1, L3.gd, L3.oB, L3.oI, L3.toB, L3.toI, L3.rdVar, L3.mvVar, L3.stVar, L3.stR, L3.stTg, L3.stVars, L3.stVarsO, L3.passA, L3.backA, L3.doCall, L3.cellOf, L3.start3, Law.outs1, Law.outs2, Law.outs3, Law.outs4, L3.resOf, L3.runFn, L3.keepB, L3.Ow.isB, L3.Ow.isOwn, L3.isTys, L3.isTy, L3.itFin, L3.ItK.run, L3.kRng1, L3.kRng2, L3.kSeq, L3.seqD, L3.seqD2, L3.kEnm, L3.enmD, Law.fit_of, Law.fit3, L3.noEr, L3.slFin, L3.slice3, L3.shE, L3.Tg.slots, L3.wipeE, L3.restE, L3.asB, Law.sz0, Law.sz1, Law.sz2, L3.rAdd3, L3.rLen3, L3.rLt3, L3.rIdx3, Law.at30, Law.at31, Law.at32, Law.at20, Law.at21, L3.isNone, Law.eqD_int, Law.md0, Law.md1, Law.md2, Law.md3, Law.md4, Law.md5, Law.md6, Law.md7, Law.md8, Law.md9, Law.md10, Law.md11, Law.md12, Law.md13, Law.md14, Law.md15, Law.md16, Law.md17, Law.md18, Law.md19, Law.md20, Law.md21, Law.md22, Law.md23, Law.md24, Law.md25, Law.md26, Law.md27, Law.md28, W17_0c]⟩
    · rw [if_neg hb0] at h
      have hb2 : 0 < b := by omega
      have d1 : divOk a b = true := divB 333 (by decide) hb2 (nat_lt hb lb)
      have m1 : mulOk (a / b) b = true := mulB 333 (by decide) (by decide) (fac_lt ha la hb2) (nat_lt hb lb)
      have m2 : mulOk (a / b) y = true := mulB e (by omega) (by omega) (Nat.lt_of_lt_of_le (fac_lt ha la hb2) (Nat.pow_le_pow_right (by decide) he)) hy
      obtain ⟨g, x', y', c6', h1, h2, h3⟩ := tur_loop C one m z f b (a % b) y (x - a / b * y) (e + 334) (some (.sh, .int (a / b))) (.inr ⟨_, rfl⟩) h hb (Int.emod_nonneg _ hb0) lb (Int.lt_trans (Int.emod_lt_of_pos _ hb2) lb) (pow_mono 334 hy) (pow_step hx hy (fac_lt ha la hb2)) (by omega) (by omega) gy (by
        have := gx.step (f := a / b) gy
        rw [sub_mod] at this
        exact this)
      refine ⟨g, x', y', c6', h1.step, h2, ?_⟩
      rw [← sub_mod] at h3
      rcases h6 with rfl | ⟨_, rfl⟩ <;> simp [L3.evSs, L3.evS.eq_1, L3.evS.eq_2, L3.evS.eq_3, L3.evS.eq_4, L3.evS.eq_5, L3.evS.eq_6, L3.evS.eq_9, L3.evS.eq_10, L3.evS.eq_11, L3.evS.eq_12, L3.evS.eq_13, L3.evS.eq_14, L3.evE.eq_1, L3.evE.eq_2, L3.evE.eq_3, L3.evE.eq_4, L3.evE.eq_5, L3.evE.eq_6, L3.evE.eq_7, L3.evE.eq_8, L3.evE.eq_9, L3.evE.eq_10, L3.evE.eq_11, L3.evE.eq_12, L3.evE.eq_13, L3.evE.eq_14, L3.evE.eq_15, L3.evE.eq_16, L3.evE.eq_18, L3.evE.eq_19, L3.evE.eq_20, L3.evE.eq_21, L3.evA, L3.evP, Law.evS_whlR, Law.evS_frR, Law.evE_lcR, Law.frR_nil, Law.frR_cons, Law.lcR_nil, Law.lcR_cons, L3.argOf, L3.Rs.bind, L3.opFin, L3.avDs, L3.avD, L3.vDs, L3.Op.keeps, L3.Op.run, L3.i1, L3.i2, L3.a1, L3.a2, L3.l1, L3.gd, L3.oB, L3.oI, L3.toB, L3.toI, L3.rdVar, L3.mvVar, L3.stVar, L3.stR, L3.stTg, L3.stVars, L3.stVarsO, L3.passA, L3.backA, L3.doCall, L3.cellOf, L3.start3, Law.outs1, Law.outs2, Law.outs3, Law.outs4, L3.resOf, L3.runFn, L3.keepB, L3.Ow.isB, L3.Ow.isOwn, L3.isTys, L3.isTy, L3.itFin, L3.ItK.run, L3.kRng1, L3.kRng2, L3.kSeq, L3.seqD, L3.seqD2, L3.kEnm, L3.enmD, Law.fit_of, Law.fit3, L3.noEr, L3.slFin, L3.slice3, L3.shE, L3.Tg.slots, L3.wipeE, L3.restE, L3.asB, Law.sz0, Law.sz1, Law.sz2, L3.rAdd3, L3.rLen3, L3.rLt3, L3.rIdx3, Law.at30, Law.at31, Law.at32, Law.at20, Law.at21, L3.isNone, Law.eqD_int, Law.md0, Law.md1, Law.md2, Law.md3, Law.md4, Law.md5, Law.md6, Law.md7, Law.md8, Law.md9, Law.md10, Law.md11, Law.md12, Law.md13, Law.md14, Law.md15, Law.md16, Law.md17, Law.md18, Law.md19, Law.md20, Law.md21, Law.md22, Law.md23, Law.md24, Law.md25, Law.md26, Law.md27, Law.md28, W17_0c, W17_0, hb2, d1, m1, m2, h3]
/-- turned about -/
def Inv1 (m one v : Int) : Prop := 0 ≤ v ∧ v < m ∧ m ∣ v * one - 1
theorem inv_of {m one x g : Int} (hm : 0 < m) (h : Cg m one x g) (hg : g = 1) : Inv1 m one (x % m) := by
  subst hg
  refine ⟨Int.emod_nonneg _ (by omega), Int.emod_lt_of_pos _ hm, ?_⟩
  have e := Int.emod_add_mul_ediv x m
  have : x % m * one - 1 = (x * one - 1) - m * (x / m * one) := by
    have : x % m = x - m * (x / m) := by omega
    rw [this, Int.sub_mul, Int.mul_assoc]; omega
  rw [this]
  exact Int.dvd_sub h ⟨_, rfl⟩
theorem c_inverse (n : Nat) {one m : Int} (h1 : Coin one) (h2 : Coin m) (c : Co one m) : ∃ v, Inv1 m one v ∧ callD tb WN (n + 1) 5 [(false, .int one), (false, .int m)] = .ok (.int v) false [none, none] := by
  have m0 : 0 < m := by have := h2.1; omega
  have r0 := Int.emod_nonneg one (show m ≠ 0 by omega)
  have r1 := Int.emod_lt_of_pos one m0
  have w1 : Cg m one 1 (one % m) := by
    unfold Cg
    have e := Int.emod_add_mul_ediv one m
    exact ⟨one / m, by omega⟩
  have w2 : Cg m one 0 m := ⟨-1, by omega⟩
  have eu : euI 667 (one % m) m = true := h2.eu _
  obtain ⟨g, x', y', c6', g1, g2, g3⟩ := inv_loop (callD tb WN n) one m 19333 667 (one % m) m 1 0 333 none (.inl rfl) eu r0 (by omega) (Int.lt_trans r1 h2.lt) h2.lt (by decide) (by decide) (by decide) (by decide) w1 w2
  have cg : Co (one % m) m := fun d x y => c d ((dvd_mod y).mp x) y
  refine ⟨x' % m, inv_of m0 g2 (g1.one.mpr cg), ?_⟩
  rw [u5]; unfold fn_inverse_of
  simp [L3.evSs, L3.evS.eq_1, L3.evS.eq_2, L3.evS.eq_3, L3.evS.eq_4, L3.evS.eq_5, L3.evS.eq_6, L3.evS.eq_9, L3.evS.eq_10, L3.evS.eq_11, L3.evS.eq_12, L3.evS.eq_13, L3.evS.eq_14, L3.evE.eq_1, L3.evE.eq_2, L3.evE.eq_3, L3.evE.eq_4, L3.evE.eq_5, L3.evE.eq_6, L3.evE.eq_7, L3.evE.eq_8, L3.evE.eq_9, L3.evE.eq_10, L3.evE.eq_11, L3.evE.eq_12, L3.evE.eq_13, L3.evE.eq_14, L3.evE.eq_15, L3.evE.eq_16, L3.evE.eq_18, L3.evE.eq_19, L3.evE.eq_20, L3.evE.eq_21, L3.evA, L3.evP, Law.evS_whlR, Law.evS_frR, Law.evE_lcR, Law.frR_nil, Law.frR_cons, Law.lcR_nil, Law.lcR_cons, L3.argOf, L3.Rs.bind, L3.opFin, L3.avDs, L3.avD, L3.vDs, L3.Op.keeps, L3.Op.run, L3.i1, L3.i2, L3.a1, L3.a2, L3.l1, L3.gd, L3.oB, L3.oI, L3.toB, L3.toI, L3.rdVar, L3.mvVar, L3.stVar, L3.stR, L3.stTg, L3.stVars, L3.stVarsO, L3.passA, L3.backA, L3.doCall, L3.cellOf, L3.start3, Law.outs1, Law.outs2, Law.outs3, Law.outs4, L3.resOf, L3.runFn, L3.keepB, L3.Ow.isB, L3.Ow.isOwn, L3.isTys, L3.isTy, L3.itFin, L3.ItK.run, L3.kRng1, L3.kRng2, L3.kSeq, L3.seqD, L3.seqD2, L3.kEnm, L3.enmD, Law.fit_of, Law.fit3, L3.noEr, L3.slFin, L3.slice3, L3.shE, L3.Tg.slots, L3.wipeE, L3.restE, L3.asB, Law.sz0, Law.sz1, Law.sz2, L3.rAdd3, L3.rLen3, L3.rLt3, L3.rIdx3, Law.at30, Law.at31, Law.at32, Law.at20, Law.at21, L3.isNone, Law.eqD_int, Law.md0, Law.md1, Law.md2, Law.md3, Law.md4, Law.md5, Law.md6, Law.md7, Law.md8, Law.md9, Law.md10, Law.md11, Law.md12, Law.md13, Law.md14, Law.md15, Law.md16, Law.md17, Law.md18, Law.md19, Law.md20, Law.md21, Law.md22, Law.md23, Law.md24, Law.md25, Law.md26, Law.md27, Law.md28, m0, g3]
theorem c_turned (n : Nat) {one m : Int} (h1 : Coin one) (h2 : Coin m) (c : Co one m) : ∃ v, Inv1 m one v ∧ callD tb WN (n + 1) 17 [(false, .int one), (false, .int m)] = .ok (.int v) false [none, none] := by
  have m0 : 0 < m := by have := h2.1; omega
  have w1 : Cg m one 1 one := ⟨0, by omega⟩
  have w2 : Cg m one 0 m := ⟨-1, by omega⟩
  have eu : euI 667 one m = true := h2.eu _
  obtain ⟨g, x', y', c6', g1, g2, g3⟩ := tur_loop (callD tb WN n) one m 19333 667 one m 1 0 333 none (.inl rfl) eu (by have := h1.1; omega) (by omega) h1.lt h2.lt (by decide) (by decide) (by decide) (by decide) w1 w2
  refine ⟨x' % m, inv_of m0 g2 (g1.one.mpr c), ?_⟩
  rw [u17]; unfold fn__law_turned
  simp [L3.evSs, L3.evS.eq_1, L3.evS.eq_2, L3.evS.eq_3, L3.evS.eq_4, L3.evS.eq_5, L3.evS.eq_6, L3.evS.eq_9, L3.evS.eq_10, L3.evS.eq_11, L3.evS.eq_12, L3.evS.eq_13, L3.evS.eq_14, L3.evE.eq_1, L3.evE.eq_2, L3.evE.eq_3, L3.evE.eq_4, L3.evE.eq_5, L3.evE.eq_6, L3.evE.eq_7, L3.evE.eq_8, L3.evE.eq_9, L3.evE.eq_10, L3.evE.eq_11, L3.evE.eq_12, L3.evE.eq_13, L3.evE.eq_14, L3.evE.eq_15, L3.evE.eq_16, L3.evE.eq_18, L3.evE.eq_19, L3.evE.eq_20, L3.evE.eq_21, L3.evA, L3.evP, Law.evS_whlR, Law.evS_frR, Law.evE_lcR, Law.frR_nil, Law.frR_cons, Law.lcR_nil, Law.lcR_cons, L3.argOf, L3.Rs.bind, L3.opFin, L3.avDs, L3.avD, L3.vDs, L3.Op.keeps, L3.Op.run, L3.i1, L3.i2, L3.a1, L3.a2, L3.l1, L3.gd, L3.oB, L3.oI, L3.toB, L3.toI, L3.rdVar, L3.mvVar, L3.stVar, L3.stR, L3.stTg, L3.stVars, L3.stVarsO, L3.passA, L3.backA, L3.doCall, L3.cellOf, L3.start3, Law.outs1, Law.outs2, Law.outs3, Law.outs4, L3.resOf, L3.runFn, L3.keepB, L3.Ow.isB, L3.Ow.isOwn, L3.isTys, L3.isTy, L3.itFin, L3.ItK.run, L3.kRng1, L3.kRng2, L3.kSeq, L3.seqD, L3.seqD2, L3.kEnm, L3.enmD, Law.fit_of, Law.fit3, L3.noEr, L3.slFin, L3.slice3, L3.shE, L3.Tg.slots, L3.wipeE, L3.restE, L3.asB, Law.sz0, Law.sz1, Law.sz2, L3.rAdd3, L3.rLen3, L3.rLt3, L3.rIdx3, Law.at30, Law.at31, Law.at32, Law.at20, Law.at21, L3.isNone, Law.eqD_int, Law.md0, Law.md1, Law.md2, Law.md3, Law.md4, Law.md5, Law.md6, Law.md7, Law.md8, Law.md9, Law.md10, Law.md11, Law.md12, Law.md13, Law.md14, Law.md15, Law.md16, Law.md17, Law.md18, Law.md19, Law.md20, Law.md21, Law.md22, Law.md23, Law.md24, Law.md25, Law.md26, Law.md27, Law.md28, m0, g3]
end Law

namespace Law
open PySem PySem.Spec PyProof.Rows L2 L3
abbrev MN : Int := 1000000000000000000000000000000000000000000000000000000000000000000000000000000000000000000000000000000000000000000000000000000000000000000000000000000000000000000000000000000000000000000000000000000000000000000000000000000000000000000000000000000000000000000000000000000000000000000000000000000000000
abbrev MQ : Int := 100000000000000000000000000000000000000000000000000000000000000000000000000000000000000000000000000000000000000000000000000000000000000000000000000000000000000000000000000000000000000000000000000000000
theorem MSS : MS * MS = MQ := by decide
theorem MSSS : MQ * MS = MN := by decide
theorem mokS : mulOk MS MS = true := by decide
theorem mokQ : mulOk MQ MS = true := by decide
/-- a number that may be asked -/
def Num (a : Int) : Prop := -MN ≤ a ∧ a ≤ MN
theorem Num.lt {a : Int} (h : Num a) : a.natAbs < 2 ^ 997 := by
  have h1 : MN < 2 ^ 997 := by decide
  have h2 := h.1
  have h3 := h.2
  have : ((a.natAbs : Nat) : Int) < ((2 ^ 997 : Nat) : Int) := by
    have e : ((2 ^ 997 : Nat) : Int) = 2 ^ 997 := by decide
    rw [e]
    omega
  exact Int.ofNat_lt.mp this
theorem Coin.nlt {a : Int} (h : Coin a) : a.natAbs < 2 ^ 333 := nat_lt (by have := h.1; omega) h.lt
theorem up_lt {a : Int} {j : Nat} (k : Nat) (hjk : j ≤ k) (h : a.natAbs < 2 ^ j) : a.natAbs < 2 ^ k := Nat.lt_of_lt_of_le h (Nat.pow_le_pow_right (by decide) hjk)
theorem c_isint (n : Nat) (x : Int) : callD tb WN (n + 1) 0 [(false, .int x)] = .ok (.bl true) false [none] := by
  rw [u0]; unfold fn_is_integer
  simp [L3.evSs, L3.evS.eq_1, L3.evS.eq_2, L3.evS.eq_3, L3.evS.eq_4, L3.evS.eq_5, L3.evS.eq_6, L3.evS.eq_9, L3.evS.eq_10, L3.evS.eq_11, L3.evS.eq_12, L3.evS.eq_13, L3.evS.eq_14, L3.evE.eq_1, L3.evE.eq_2, L3.evE.eq_3, L3.evE.eq_4, L3.evE.eq_5, L3.evE.eq_6, L3.evE.eq_7, L3.evE.eq_8, L3.evE.eq_9, L3.evE.eq_10, L3.evE.eq_11, L3.evE.eq_12, L3.evE.eq_13, L3.evE.eq_14, L3.evE.eq_15, L3.evE.eq_16, L3.evE.eq_18, L3.evE.eq_19, L3.evE.eq_20, L3.evE.eq_21, L3.evA, L3.evP, Law.evS_whlR, Law.evS_frR, Law.evE_lcR, Law.frR_nil, Law.frR_cons, Law.lcR_nil, Law.lcR_cons, L3.argOf, L3.Rs.bind, L3.opFin, L3.avDs, L3.avD, L3.vDs, L3.Op.keeps, L3.Op.run, L3.i1, L3.i2, L3.a1, L3.a2, L3.l1, L3.gd, L3.oB, L3.oI, L3.toB, L3.toI, L3.rdVar, L3.mvVar, L3.stVar, L3.stR, L3.stTg, L3.stVars, L3.stVarsO, L3.passA, L3.backA, L3.doCall, L3.cellOf, L3.start3, Law.outs1, Law.outs2, Law.outs3, Law.outs4, L3.resOf, L3.runFn, L3.keepB, L3.Ow.isB, L3.Ow.isOwn, L3.isTys, L3.isTy, L3.itFin, L3.ItK.run, L3.kRng1, L3.kRng2, L3.kSeq, L3.seqD, L3.seqD2, L3.kEnm, L3.enmD, Law.fit_of, Law.fit3, L3.noEr, L3.slFin, L3.slice3, L3.shE, L3.Tg.slots, L3.wipeE, L3.restE, L3.asB, Law.sz0, Law.sz1, Law.sz2, L3.rAdd3, L3.rLen3, L3.rLt3, L3.rIdx3, Law.at30, Law.at31, Law.at32, Law.at20, Law.at21, L3.isNone, Law.eqD_int, Law.md0, Law.md1, Law.md2, Law.md3, Law.md4, Law.md5, Law.md6, Law.md7, Law.md8, Law.md9, Law.md10, Law.md11, Law.md12, Law.md13, Law.md14, Law.md15, Law.md16, Law.md17, Law.md18, Law.md19, Law.md20, Law.md21, Law.md22, Law.md23, Law.md24, Law.md25, Law.md26, Law.md27, Law.md28]
/-- what a thing may be -/
def itm : D → Bool
  | .fls _ => false | .set _ => false | .exc _ _ _ => false | .thk _ _ => false | _ => true
def isI : D → Bool
  | .int _ => true | _ => false
theorem c_isint0 (n : Nat) (x : D) (h : itm x = true) (h2 : isI x = false) : callD tb WN (n + 1) 0 [(false, x)] = .ok (.bl false) false [none] := by
  rw [u0]; unfold fn_is_integer
  cases x with
  | int i => cases h2
  | fls _ => cases h
  | set _ => cases h
  | exc _ _ _ => cases h
  | thk _ _ => cases h
  | _ => simp [L3.evSs, L3.evS.eq_1, L3.evS.eq_2, L3.evS.eq_3, L3.evS.eq_4, L3.evS.eq_5, L3.evS.eq_6, L3.evS.eq_9, L3.evS.eq_10, L3.evS.eq_11, L3.evS.eq_12, L3.evS.eq_13, L3.evS.eq_14, L3.evE.eq_1, L3.evE.eq_2, L3.evE.eq_3, L3.evE.eq_4, L3.evE.eq_5, L3.evE.eq_6, L3.evE.eq_7, L3.evE.eq_8, L3.evE.eq_9, L3.evE.eq_10, L3.evE.eq_11, L3.evE.eq_12, L3.evE.eq_13, L3.evE.eq_14, L3.evE.eq_15, L3.evE.eq_16, L3.evE.eq_18, L3.evE.eq_19, L3.evE.eq_20, L3.evE.eq_21, L3.evA, L3.evP, Law.evS_whlR, Law.evS_frR, Law.evE_lcR, Law.frR_nil, Law.frR_cons, Law.lcR_nil, Law.lcR_cons, L3.argOf, L3.Rs.bind, L3.opFin, L3.avDs, L3.avD, L3.vDs, L3.Op.keeps, L3.Op.run, L3.i1, L3.i2, L3.a1, L3.a2, L3.l1, L3.gd, L3.oB, L3.oI, L3.toB, L3.toI, L3.rdVar, L3.mvVar, L3.stVar, L3.stR, L3.stTg, L3.stVars, L3.stVarsO, L3.passA, L3.backA, L3.doCall, L3.cellOf, L3.start3, Law.outs1, Law.outs2, Law.outs3, Law.outs4, L3.resOf, L3.runFn, L3.keepB, L3.Ow.isB, L3.Ow.isOwn, L3.isTys, L3.isTy, L3.itFin, L3.ItK.run, L3.kRng1, L3.kRng2, L3.kSeq, L3.seqD, L3.seqD2, L3.kEnm, L3.enmD, Law.fit_of, Law.fit3, L3.noEr, L3.slFin, L3.slice3, L3.shE, L3.Tg.slots, L3.wipeE, L3.restE, L3.asB, Law.sz0, Law.sz1, Law.sz2, L3.rAdd3, L3.rLen3, L3.rLt3, L3.rIdx3, Law.at30, Law.at31, Law.at32, Law.at20, Law.at21, L3.isNone, Law.eqD_int, Law.md0, Law.md1, Law.md2, Law.md3, Law.md4, Law.md5, Law.md6, Law.md7, Law.md8, Law.md9, Law.md10, Law.md11, Law.md12, Law.md13, Law.md14, Law.md15, Law.md16, Law.md17, Law.md18, Law.md19, Law.md20, Law.md21, Law.md22, Law.md23, Law.md24, Law.md25, Law.md26, Law.md27, Law.md28]
/-- no coin -/
def NoC (x : D) : Prop := itm x = true ∧ ∀ i, x = .int i → ¬ Coin i
def erC : CRes := .er ⟨2, ["at"], [.int (-1)]⟩ [none, none]
def erN : CRes := .er ⟨1, [], []⟩ [none]
theorem c_check_two (n : Nat) {a b : Int} (ha : Coin a) (hb : Coin b) (c : Co a b) : callD tb WN (n + 2) 3 [(false, .int a), (false, .int b)] = .ok .non false [none, none] := by
  rw [u3]; unfold fn_check_two
  obtain ⟨g, h1, h2⟩ := c_common n ha hb
  have hg := h1.one.mpr c
  subst hg
  obtain ⟨a1, a2⟩ := ha
  obtain ⟨b1, b2⟩ := hb
  simp [L3.evSs, L3.evS.eq_1, L3.evS.eq_2, L3.evS.eq_3, L3.evS.eq_4, L3.evS.eq_5, L3.evS.eq_6, L3.evS.eq_9, L3.evS.eq_10, L3.evS.eq_11, L3.evS.eq_12, L3.evS.eq_13, L3.evS.eq_14, L3.evE.eq_1, L3.evE.eq_2, L3.evE.eq_3, L3.evE.eq_4, L3.evE.eq_5, L3.evE.eq_6, L3.evE.eq_7, L3.evE.eq_8, L3.evE.eq_9, L3.evE.eq_10, L3.evE.eq_11, L3.evE.eq_12, L3.evE.eq_13, L3.evE.eq_14, L3.evE.eq_15, L3.evE.eq_16, L3.evE.eq_18, L3.evE.eq_19, L3.evE.eq_20, L3.evE.eq_21, L3.evA, L3.evP, Law.evS_whlR, Law.evS_frR, Law.evE_lcR, Law.frR_nil, Law.frR_cons, Law.lcR_nil, Law.lcR_cons, L3.argOf, L3.Rs.bind, L3.opFin, L3.avDs, L3.avD, L3.vDs, L3.Op.keeps, L3.Op.run, L3.i1, L3.i2, L3.a1, L3.a2, L3.l1, L3.gd, L3.oB, L3.oI, L3.toB, L3.toI, L3.rdVar, L3.mvVar, L3.stVar, L3.stR, L3.stTg, L3.stVars, L3.stVarsO, L3.passA, L3.backA, L3.doCall, L3.cellOf, L3.start3, Law.outs1, Law.outs2, Law.outs3, Law.outs4, L3.resOf, L3.runFn, L3.keepB, L3.Ow.isB, L3.Ow.isOwn, L3.isTys, L3.isTy, L3.itFin, L3.ItK.run, L3.kRng1, L3.kRng2, L3.kSeq, L3.seqD, L3.seqD2, L3.kEnm, L3.enmD, Law.fit_of, Law.fit3, L3.noEr, L3.slFin, L3.slice3, L3.shE, L3.Tg.slots, L3.wipeE, L3.restE, L3.asB, Law.sz0, Law.sz1, Law.sz2, L3.rAdd3, L3.rLen3, L3.rLt3, L3.rIdx3, Law.at30, Law.at31, Law.at32, Law.at20, Law.at21, L3.isNone, Law.eqD_int, Law.md0, Law.md1, Law.md2, Law.md3, Law.md4, Law.md5, Law.md6, Law.md7, Law.md8, Law.md9, Law.md10, Law.md11, Law.md12, Law.md13, Law.md14, Law.md15, Law.md16, Law.md17, Law.md18, Law.md19, Law.md20, Law.md21, Law.md22, Law.md23, Law.md24, Law.md25, Law.md26, Law.md27, Law.md28, F3_0, c_isint, a1, a2, b1, b2, h2]
theorem c_check_gcd (n : Nat) {a b : Int} (ha : Coin a) (hb : Coin b) (c : ¬ Co a b) : callD tb WN (n + 2) 3 [(false, .int a), (false, .int b)] = erC := by
  rw [u3]; unfold fn_check_two
  obtain ⟨g, h1, h2⟩ := c_common n ha hb
  have hg : ¬ g = 1 := fun e => c (h1.one.mp e)
  obtain ⟨a1, a2⟩ := ha
  obtain ⟨b1, b2⟩ := hb
  simp [L3.evSs, L3.evS.eq_1, L3.evS.eq_2, L3.evS.eq_3, L3.evS.eq_4, L3.evS.eq_5, L3.evS.eq_6, L3.evS.eq_9, L3.evS.eq_10, L3.evS.eq_11, L3.evS.eq_12, L3.evS.eq_13, L3.evS.eq_14, L3.evE.eq_1, L3.evE.eq_2, L3.evE.eq_3, L3.evE.eq_4, L3.evE.eq_5, L3.evE.eq_6, L3.evE.eq_7, L3.evE.eq_8, L3.evE.eq_9, L3.evE.eq_10, L3.evE.eq_11, L3.evE.eq_12, L3.evE.eq_13, L3.evE.eq_14, L3.evE.eq_15, L3.evE.eq_16, L3.evE.eq_18, L3.evE.eq_19, L3.evE.eq_20, L3.evE.eq_21, L3.evA, L3.evP, Law.evS_whlR, Law.evS_frR, Law.evE_lcR, Law.frR_nil, Law.frR_cons, Law.lcR_nil, Law.lcR_cons, L3.argOf, L3.Rs.bind, L3.opFin, L3.avDs, L3.avD, L3.vDs, L3.Op.keeps, L3.Op.run, L3.i1, L3.i2, L3.a1, L3.a2, L3.l1, L3.gd, L3.oB, L3.oI, L3.toB, L3.toI, L3.rdVar, L3.mvVar, L3.stVar, L3.stR, L3.stTg, L3.stVars, L3.stVarsO, L3.passA, L3.backA, L3.doCall, L3.cellOf, L3.start3, Law.outs1, Law.outs2, Law.outs3, Law.outs4, L3.resOf, L3.runFn, L3.keepB, L3.Ow.isB, L3.Ow.isOwn, L3.isTys, L3.isTy, L3.itFin, L3.ItK.run, L3.kRng1, L3.kRng2, L3.kSeq, L3.seqD, L3.seqD2, L3.kEnm, L3.enmD, Law.fit_of, Law.fit3, L3.noEr, L3.slFin, L3.slice3, L3.shE, L3.Tg.slots, L3.wipeE, L3.restE, L3.asB, Law.sz0, Law.sz1, Law.sz2, L3.rAdd3, L3.rLen3, L3.rLt3, L3.rIdx3, Law.at30, Law.at31, Law.at32, Law.at20, Law.at21, L3.isNone, Law.eqD_int, Law.md0, Law.md1, Law.md2, Law.md3, Law.md4, Law.md5, Law.md6, Law.md7, Law.md8, Law.md9, Law.md10, Law.md11, Law.md12, Law.md13, Law.md14, Law.md15, Law.md16, Law.md17, Law.md18, Law.md19, Law.md20, Law.md21, Law.md22, Law.md23, Law.md24, Law.md25, Law.md26, Law.md27, Law.md28, F3_0, c_isint, a1, a2, b1, b2, h2, hg, erC]
theorem c_check_l (n : Nat) {x y : D} (h : NoC x) (hy : itm y = true) : callD tb WN (n + 2) 3 [(false, x), (false, y)] = erC := by
  rw [u3]; unfold fn_check_two
  cases hi : isI x with
  | false =>
    have e := c_isint0 n x h.1 hi
    simp [L3.evSs, L3.evS.eq_1, L3.evS.eq_2, L3.evS.eq_3, L3.evS.eq_4, L3.evS.eq_5, L3.evS.eq_6, L3.evS.eq_9, L3.evS.eq_10, L3.evS.eq_11, L3.evS.eq_12, L3.evS.eq_13, L3.evS.eq_14, L3.evE.eq_1, L3.evE.eq_2, L3.evE.eq_3, L3.evE.eq_4, L3.evE.eq_5, L3.evE.eq_6, L3.evE.eq_7, L3.evE.eq_8, L3.evE.eq_9, L3.evE.eq_10, L3.evE.eq_11, L3.evE.eq_12, L3.evE.eq_13, L3.evE.eq_14, L3.evE.eq_15, L3.evE.eq_16, L3.evE.eq_18, L3.evE.eq_19, L3.evE.eq_20, L3.evE.eq_21, L3.evA, L3.evP, Law.evS_whlR, Law.evS_frR, Law.evE_lcR, Law.frR_nil, Law.frR_cons, Law.lcR_nil, Law.lcR_cons, L3.argOf, L3.Rs.bind, L3.opFin, L3.avDs, L3.avD, L3.vDs, L3.Op.keeps, L3.Op.run, L3.i1, L3.i2, L3.a1, L3.a2, L3.l1, L3.gd, L3.oB, L3.oI, L3.toB, L3.toI, L3.rdVar, L3.mvVar, L3.stVar, L3.stR, L3.stTg, L3.stVars, L3.stVarsO, L3.passA, L3.backA, L3.doCall, L3.cellOf, L3.start3, Law.outs1, Law.outs2, Law.outs3, Law.outs4, L3.resOf, L3.runFn, L3.keepB, L3.Ow.isB, L3.Ow.isOwn, L3.isTys, L3.isTy, L3.itFin, L3.ItK.run, L3.kRng1, L3.kRng2, L3.kSeq, L3.seqD, L3.seqD2, L3.kEnm, L3.enmD, Law.fit_of, Law.fit3, L3.noEr, L3.slFin, L3.slice3, L3.shE, L3.Tg.slots, L3.wipeE, L3.restE, L3.asB, Law.sz0, Law.sz1, Law.sz2, L3.rAdd3, L3.rLen3, L3.rLt3, L3.rIdx3, Law.at30, Law.at31, Law.at32, Law.at20, Law.at21, L3.isNone, Law.eqD_int, Law.md0, Law.md1, Law.md2, Law.md3, Law.md4, Law.md5, Law.md6, Law.md7, Law.md8, Law.md9, Law.md10, Law.md11, Law.md12, Law.md13, Law.md14, Law.md15, Law.md16, Law.md17, Law.md18, Law.md19, Law.md20, Law.md21, Law.md22, Law.md23, Law.md24, Law.md25, Law.md26, Law.md27, Law.md28, F3_0, e, erC]
  | true =>
    cases x with
    | int i =>
      have := h.2 i rfl
      unfold Coin at this
      by_cases h1 : 1 ≤ i
      · have h2 : ¬ i ≤ MS := fun z => this ⟨h1, z⟩
        simp [L3.evSs, L3.evS.eq_1, L3.evS.eq_2, L3.evS.eq_3, L3.evS.eq_4, L3.evS.eq_5, L3.evS.eq_6, L3.evS.eq_9, L3.evS.eq_10, L3.evS.eq_11, L3.evS.eq_12, L3.evS.eq_13, L3.evS.eq_14, L3.evE.eq_1, L3.evE.eq_2, L3.evE.eq_3, L3.evE.eq_4, L3.evE.eq_5, L3.evE.eq_6, L3.evE.eq_7, L3.evE.eq_8, L3.evE.eq_9, L3.evE.eq_10, L3.evE.eq_11, L3.evE.eq_12, L3.evE.eq_13, L3.evE.eq_14, L3.evE.eq_15, L3.evE.eq_16, L3.evE.eq_18, L3.evE.eq_19, L3.evE.eq_20, L3.evE.eq_21, L3.evA, L3.evP, Law.evS_whlR, Law.evS_frR, Law.evE_lcR, Law.frR_nil, Law.frR_cons, Law.lcR_nil, Law.lcR_cons, L3.argOf, L3.Rs.bind, L3.opFin, L3.avDs, L3.avD, L3.vDs, L3.Op.keeps, L3.Op.run, L3.i1, L3.i2, L3.a1, L3.a2, L3.l1, L3.gd, L3.oB, L3.oI, L3.toB, L3.toI, L3.rdVar, L3.mvVar, L3.stVar, L3.stR, L3.stTg, L3.stVars, L3.stVarsO, L3.passA, L3.backA, L3.doCall, L3.cellOf, L3.start3, Law.outs1, Law.outs2, Law.outs3, Law.outs4, L3.resOf, L3.runFn, L3.keepB, L3.Ow.isB, L3.Ow.isOwn, L3.isTys, L3.isTy, L3.itFin, L3.ItK.run, L3.kRng1, L3.kRng2, L3.kSeq, L3.seqD, L3.seqD2, L3.kEnm, L3.enmD, Law.fit_of, Law.fit3, L3.noEr, L3.slFin, L3.slice3, L3.shE, L3.Tg.slots, L3.wipeE, L3.restE, L3.asB, Law.sz0, Law.sz1, Law.sz2, L3.rAdd3, L3.rLen3, L3.rLt3, L3.rIdx3, Law.at30, Law.at31, Law.at32, Law.at20, Law.at21, L3.isNone, Law.eqD_int, Law.md0, Law.md1, Law.md2, Law.md3, Law.md4, Law.md5, Law.md6, Law.md7, Law.md8, Law.md9, Law.md10, Law.md11, Law.md12, Law.md13, Law.md14, Law.md15, Law.md16, Law.md17, Law.md18, Law.md19, Law.md20, Law.md21, Law.md22, Law.md23, Law.md24, Law.md25, Law.md26, Law.md27, Law.md28, F3_0, c_isint, h1, h2, erC]
      · simp [L3.evSs, L3.evS.eq_1, L3.evS.eq_2, L3.evS.eq_3, L3.evS.eq_4, L3.evS.eq_5, L3.evS.eq_6, L3.evS.eq_9, L3.evS.eq_10, L3.evS.eq_11, L3.evS.eq_12, L3.evS.eq_13, L3.evS.eq_14, L3.evE.eq_1, L3.evE.eq_2, L3.evE.eq_3, L3.evE.eq_4, L3.evE.eq_5, L3.evE.eq_6, L3.evE.eq_7, L3.evE.eq_8, L3.evE.eq_9, L3.evE.eq_10, L3.evE.eq_11, L3.evE.eq_12, L3.evE.eq_13, L3.evE.eq_14, L3.evE.eq_15, L3.evE.eq_16, L3.evE.eq_18, L3.evE.eq_19, L3.evE.eq_20, L3.evE.eq_21, L3.evA, L3.evP, Law.evS_whlR, Law.evS_frR, Law.evE_lcR, Law.frR_nil, Law.frR_cons, Law.lcR_nil, Law.lcR_cons, L3.argOf, L3.Rs.bind, L3.opFin, L3.avDs, L3.avD, L3.vDs, L3.Op.keeps, L3.Op.run, L3.i1, L3.i2, L3.a1, L3.a2, L3.l1, L3.gd, L3.oB, L3.oI, L3.toB, L3.toI, L3.rdVar, L3.mvVar, L3.stVar, L3.stR, L3.stTg, L3.stVars, L3.stVarsO, L3.passA, L3.backA, L3.doCall, L3.cellOf, L3.start3, Law.outs1, Law.outs2, Law.outs3, Law.outs4, L3.resOf, L3.runFn, L3.keepB, L3.Ow.isB, L3.Ow.isOwn, L3.isTys, L3.isTy, L3.itFin, L3.ItK.run, L3.kRng1, L3.kRng2, L3.kSeq, L3.seqD, L3.seqD2, L3.kEnm, L3.enmD, Law.fit_of, Law.fit3, L3.noEr, L3.slFin, L3.slice3, L3.shE, L3.Tg.slots, L3.wipeE, L3.restE, L3.asB, Law.sz0, Law.sz1, Law.sz2, L3.rAdd3, L3.rLen3, L3.rLt3, L3.rIdx3, Law.at30, Law.at31, Law.at32, Law.at20, Law.at21, L3.isNone, Law.eqD_int, Law.md0, Law.md1, Law.md2, Law.md3, Law.md4, Law.md5, Law.md6, Law.md7, Law.md8, Law.md9, Law.md10, Law.md11, Law.md12, Law.md13, Law.md14, Law.md15, Law.md16, Law.md17, Law.md18, Law.md19, Law.md20, Law.md21, Law.md22, Law.md23, Law.md24, Law.md25, Law.md26, Law.md27, Law.md28, F3_0, c_isint, h1, erC]
    | _ => cases hi
theorem c_check_r (n : Nat) {a : Int} {y : D} (ha : Coin a) (h : NoC y) : callD tb WN (n + 2) 3 [(false, .int a), (false, y)] = erC := by
  rw [u3]; unfold fn_check_two
  obtain ⟨a1, a2⟩ := ha
  cases hi : isI y with
  | false =>
    have e := c_isint0 n y h.1 hi
    simp [L3.evSs, L3.evS.eq_1, L3.evS.eq_2, L3.evS.eq_3, L3.evS.eq_4, L3.evS.eq_5, L3.evS.eq_6, L3.evS.eq_9, L3.evS.eq_10, L3.evS.eq_11, L3.evS.eq_12, L3.evS.eq_13, L3.evS.eq_14, L3.evE.eq_1, L3.evE.eq_2, L3.evE.eq_3, L3.evE.eq_4, L3.evE.eq_5, L3.evE.eq_6, L3.evE.eq_7, L3.evE.eq_8, L3.evE.eq_9, L3.evE.eq_10, L3.evE.eq_11, L3.evE.eq_12, L3.evE.eq_13, L3.evE.eq_14, L3.evE.eq_15, L3.evE.eq_16, L3.evE.eq_18, L3.evE.eq_19, L3.evE.eq_20, L3.evE.eq_21, L3.evA, L3.evP, Law.evS_whlR, Law.evS_frR, Law.evE_lcR, Law.frR_nil, Law.frR_cons, Law.lcR_nil, Law.lcR_cons, L3.argOf, L3.Rs.bind, L3.opFin, L3.avDs, L3.avD, L3.vDs, L3.Op.keeps, L3.Op.run, L3.i1, L3.i2, L3.a1, L3.a2, L3.l1, L3.gd, L3.oB, L3.oI, L3.toB, L3.toI, L3.rdVar, L3.mvVar, L3.stVar, L3.stR, L3.stTg, L3.stVars, L3.stVarsO, L3.passA, L3.backA, L3.doCall, L3.cellOf, L3.start3, Law.outs1, Law.outs2, Law.outs3, Law.outs4, L3.resOf, L3.runFn, L3.keepB, L3.Ow.isB, L3.Ow.isOwn, L3.isTys, L3.isTy, L3.itFin, L3.ItK.run, L3.kRng1, L3.kRng2, L3.kSeq, L3.seqD, L3.seqD2, L3.kEnm, L3.enmD, Law.fit_of, Law.fit3, L3.noEr, L3.slFin, L3.slice3, L3.shE, L3.Tg.slots, L3.wipeE, L3.restE, L3.asB, Law.sz0, Law.sz1, Law.sz2, L3.rAdd3, L3.rLen3, L3.rLt3, L3.rIdx3, Law.at30, Law.at31, Law.at32, Law.at20, Law.at21, L3.isNone, Law.eqD_int, Law.md0, Law.md1, Law.md2, Law.md3, Law.md4, Law.md5, Law.md6, Law.md7, Law.md8, Law.md9, Law.md10, Law.md11, Law.md12, Law.md13, Law.md14, Law.md15, Law.md16, Law.md17, Law.md18, Law.md19, Law.md20, Law.md21, Law.md22, Law.md23, Law.md24, Law.md25, Law.md26, Law.md27, Law.md28, F3_0, c_isint, a1, a2, e, erC]
  | true =>
    cases y with
    | int i =>
      have := h.2 i rfl
      unfold Coin at this
      by_cases h1 : 1 ≤ i
      · have h2 : ¬ i ≤ MS := fun z => this ⟨h1, z⟩
        simp [L3.evSs, L3.evS.eq_1, L3.evS.eq_2, L3.evS.eq_3, L3.evS.eq_4, L3.evS.eq_5, L3.evS.eq_6, L3.evS.eq_9, L3.evS.eq_10, L3.evS.eq_11, L3.evS.eq_12, L3.evS.eq_13, L3.evS.eq_14, L3.evE.eq_1, L3.evE.eq_2, L3.evE.eq_3, L3.evE.eq_4, L3.evE.eq_5, L3.evE.eq_6, L3.evE.eq_7, L3.evE.eq_8, L3.evE.eq_9, L3.evE.eq_10, L3.evE.eq_11, L3.evE.eq_12, L3.evE.eq_13, L3.evE.eq_14, L3.evE.eq_15, L3.evE.eq_16, L3.evE.eq_18, L3.evE.eq_19, L3.evE.eq_20, L3.evE.eq_21, L3.evA, L3.evP, Law.evS_whlR, Law.evS_frR, Law.evE_lcR, Law.frR_nil, Law.frR_cons, Law.lcR_nil, Law.lcR_cons, L3.argOf, L3.Rs.bind, L3.opFin, L3.avDs, L3.avD, L3.vDs, L3.Op.keeps, L3.Op.run, L3.i1, L3.i2, L3.a1, L3.a2, L3.l1, L3.gd, L3.oB, L3.oI, L3.toB, L3.toI, L3.rdVar, L3.mvVar, L3.stVar, L3.stR, L3.stTg, L3.stVars, L3.stVarsO, L3.passA, L3.backA, L3.doCall, L3.cellOf, L3.start3, Law.outs1, Law.outs2, Law.outs3, Law.outs4, L3.resOf, L3.runFn, L3.keepB, L3.Ow.isB, L3.Ow.isOwn, L3.isTys, L3.isTy, L3.itFin, L3.ItK.run, L3.kRng1, L3.kRng2, L3.kSeq, L3.seqD, L3.seqD2, L3.kEnm, L3.enmD, Law.fit_of, Law.fit3, L3.noEr, L3.slFin, L3.slice3, L3.shE, L3.Tg.slots, L3.wipeE, L3.restE, L3.asB, Law.sz0, Law.sz1, Law.sz2, L3.rAdd3, L3.rLen3, L3.rLt3, L3.rIdx3, Law.at30, Law.at31, Law.at32, Law.at20, Law.at21, L3.isNone, Law.eqD_int, Law.md0, Law.md1, Law.md2, Law.md3, Law.md4, Law.md5, Law.md6, Law.md7, Law.md8, Law.md9, Law.md10, Law.md11, Law.md12, Law.md13, Law.md14, Law.md15, Law.md16, Law.md17, Law.md18, Law.md19, Law.md20, Law.md21, Law.md22, Law.md23, Law.md24, Law.md25, Law.md26, Law.md27, Law.md28, F3_0, c_isint, a1, a2, h1, h2, erC]
      · simp [L3.evSs, L3.evS.eq_1, L3.evS.eq_2, L3.evS.eq_3, L3.evS.eq_4, L3.evS.eq_5, L3.evS.eq_6, L3.evS.eq_9, L3.evS.eq_10, L3.evS.eq_11, L3.evS.eq_12, L3.evS.eq_13, L3.evS.eq_14, L3.evE.eq_1, L3.evE.eq_2, L3.evE.eq_3, L3.evE.eq_4, L3.evE.eq_5, L3.evE.eq_6, L3.evE.eq_7, L3.evE.eq_8, L3.evE.eq_9, L3.evE.eq_10, L3.evE.eq_11, L3.evE.eq_12, L3.evE.eq_13, L3.evE.eq_14, L3.evE.eq_15, L3.evE.eq_16, L3.evE.eq_18, L3.evE.eq_19, L3.evE.eq_20, L3.evE.eq_21, L3.evA, L3.evP, Law.evS_whlR, Law.evS_frR, Law.evE_lcR, Law.frR_nil, Law.frR_cons, Law.lcR_nil, Law.lcR_cons, L3.argOf, L3.Rs.bind, L3.opFin, L3.avDs, L3.avD, L3.vDs, L3.Op.keeps, L3.Op.run, L3.i1, L3.i2, L3.a1, L3.a2, L3.l1, L3.gd, L3.oB, L3.oI, L3.toB, L3.toI, L3.rdVar, L3.mvVar, L3.stVar, L3.stR, L3.stTg, L3.stVars, L3.stVarsO, L3.passA, L3.backA, L3.doCall, L3.cellOf, L3.start3, Law.outs1, Law.outs2, Law.outs3, Law.outs4, L3.resOf, L3.runFn, L3.keepB, L3.Ow.isB, L3.Ow.isOwn, L3.isTys, L3.isTy, L3.itFin, L3.ItK.run, L3.kRng1, L3.kRng2, L3.kSeq, L3.seqD, L3.seqD2, L3.kEnm, L3.enmD, Law.fit_of, Law.fit3, L3.noEr, L3.slFin, L3.slice3, L3.shE, L3.Tg.slots, L3.wipeE, L3.restE, L3.asB, Law.sz0, Law.sz1, Law.sz2, L3.rAdd3, L3.rLen3, L3.rLt3, L3.rIdx3, Law.at30, Law.at31, Law.at32, Law.at20, Law.at21, L3.isNone, Law.eqD_int, Law.md0, Law.md1, Law.md2, Law.md3, Law.md4, Law.md5, Law.md6, Law.md7, Law.md8, Law.md9, Law.md10, Law.md11, Law.md12, Law.md13, Law.md14, Law.md15, Law.md16, Law.md17, Law.md18, Law.md19, Law.md20, Law.md21, Law.md22, Law.md23, Law.md24, Law.md25, Law.md26, Law.md27, Law.md28, F3_0, c_isint, a1, a2, h1, erC]
    | _ => cases hi
theorem c_check_number (n : Nat) {a : Int} (h : Num a) : callD tb WN (n + 2) 4 [(false, .int a)] = .ok .non false [none] := by
  rw [u4]; unfold fn_check_number
  have h1 : ¬ (MN < if a < 0 then -a else a) := by
    obtain ⟨h1, h2⟩ := h
    split <;> omega
  simp [L3.evSs, L3.evS.eq_1, L3.evS.eq_2, L3.evS.eq_3, L3.evS.eq_4, L3.evS.eq_5, L3.evS.eq_6, L3.evS.eq_9, L3.evS.eq_10, L3.evS.eq_11, L3.evS.eq_12, L3.evS.eq_13, L3.evS.eq_14, L3.evE.eq_1, L3.evE.eq_2, L3.evE.eq_3, L3.evE.eq_4, L3.evE.eq_5, L3.evE.eq_6, L3.evE.eq_7, L3.evE.eq_8, L3.evE.eq_9, L3.evE.eq_10, L3.evE.eq_11, L3.evE.eq_12, L3.evE.eq_13, L3.evE.eq_14, L3.evE.eq_15, L3.evE.eq_16, L3.evE.eq_18, L3.evE.eq_19, L3.evE.eq_20, L3.evE.eq_21, L3.evA, L3.evP, Law.evS_whlR, Law.evS_frR, Law.evE_lcR, Law.frR_nil, Law.frR_cons, Law.lcR_nil, Law.lcR_cons, L3.argOf, L3.Rs.bind, L3.opFin, L3.avDs, L3.avD, L3.vDs, L3.Op.keeps, L3.Op.run, L3.i1, L3.i2, L3.a1, L3.a2, L3.l1, L3.gd, L3.oB, L3.oI, L3.toB, L3.toI, L3.rdVar, L3.mvVar, L3.stVar, L3.stR, L3.stTg, L3.stVars, L3.stVarsO, L3.passA, L3.backA, L3.doCall, L3.cellOf, L3.start3, Law.outs1, Law.outs2, Law.outs3, Law.outs4, L3.resOf, L3.runFn, L3.keepB, L3.Ow.isB, L3.Ow.isOwn, L3.isTys, L3.isTy, L3.itFin, L3.ItK.run, L3.kRng1, L3.kRng2, L3.kSeq, L3.seqD, L3.seqD2, L3.kEnm, L3.enmD, Law.fit_of, Law.fit3, L3.noEr, L3.slFin, L3.slice3, L3.shE, L3.Tg.slots, L3.wipeE, L3.restE, L3.asB, Law.sz0, Law.sz1, Law.sz2, L3.rAdd3, L3.rLen3, L3.rLt3, L3.rIdx3, Law.at30, Law.at31, Law.at32, Law.at20, Law.at21, L3.isNone, Law.eqD_int, Law.md0, Law.md1, Law.md2, Law.md3, Law.md4, Law.md5, Law.md6, Law.md7, Law.md8, Law.md9, Law.md10, Law.md11, Law.md12, Law.md13, Law.md14, Law.md15, Law.md16, Law.md17, Law.md18, Law.md19, Law.md20, Law.md21, Law.md22, Law.md23, Law.md24, Law.md25, Law.md26, Law.md27, Law.md28, c_isint, mokS, MSS, mokQ, MSSS, h1]
/-- no number -/
def NoN (x : D) : Prop := itm x = true ∧ ∀ i, x = .int i → ¬ Num i
theorem c_check_nonum (n : Nat) {x : D} (h : NoN x) : callD tb WN (n + 2) 4 [(false, x)] = erN := by
  rw [u4]; unfold fn_check_number
  cases hi : isI x with
  | false =>
    have e := c_isint0 n x h.1 hi
    simp [L3.evSs, L3.evS.eq_1, L3.evS.eq_2, L3.evS.eq_3, L3.evS.eq_4, L3.evS.eq_5, L3.evS.eq_6, L3.evS.eq_9, L3.evS.eq_10, L3.evS.eq_11, L3.evS.eq_12, L3.evS.eq_13, L3.evS.eq_14, L3.evE.eq_1, L3.evE.eq_2, L3.evE.eq_3, L3.evE.eq_4, L3.evE.eq_5, L3.evE.eq_6, L3.evE.eq_7, L3.evE.eq_8, L3.evE.eq_9, L3.evE.eq_10, L3.evE.eq_11, L3.evE.eq_12, L3.evE.eq_13, L3.evE.eq_14, L3.evE.eq_15, L3.evE.eq_16, L3.evE.eq_18, L3.evE.eq_19, L3.evE.eq_20, L3.evE.eq_21, L3.evA, L3.evP, Law.evS_whlR, Law.evS_frR, Law.evE_lcR, Law.frR_nil, Law.frR_cons, Law.lcR_nil, Law.lcR_cons, L3.argOf, L3.Rs.bind, L3.opFin, L3.avDs, L3.avD, L3.vDs, L3.Op.keeps, L3.Op.run, L3.i1, L3.i2, L3.a1, L3.a2, L3.l1, L3.gd, L3.oB, L3.oI, L3.toB, L3.toI, L3.rdVar, L3.mvVar, L3.stVar, L3.stR, L3.stTg, L3.stVars, L3.stVarsO, L3.passA, L3.backA, L3.doCall, L3.cellOf, L3.start3, Law.outs1, Law.outs2, Law.outs3, Law.outs4, L3.resOf, L3.runFn, L3.keepB, L3.Ow.isB, L3.Ow.isOwn, L3.isTys, L3.isTy, L3.itFin, L3.ItK.run, L3.kRng1, L3.kRng2, L3.kSeq, L3.seqD, L3.seqD2, L3.kEnm, L3.enmD, Law.fit_of, Law.fit3, L3.noEr, L3.slFin, L3.slice3, L3.shE, L3.Tg.slots, L3.wipeE, L3.restE, L3.asB, Law.sz0, Law.sz1, Law.sz2, L3.rAdd3, L3.rLen3, L3.rLt3, L3.rIdx3, Law.at30, Law.at31, Law.at32, Law.at20, Law.at21, L3.isNone, Law.eqD_int, Law.md0, Law.md1, Law.md2, Law.md3, Law.md4, Law.md5, Law.md6, Law.md7, Law.md8, Law.md9, Law.md10, Law.md11, Law.md12, Law.md13, Law.md14, Law.md15, Law.md16, Law.md17, Law.md18, Law.md19, Law.md20, Law.md21, Law.md22, Law.md23, Law.md24, Law.md25, Law.md26, Law.md27, Law.md28, e, erN]
  | true =>
    cases x with
    | int i =>
      have := h.2 i rfl
      unfold Num at this
      have h1 : (MN < if i < 0 then -i else i) := by split <;> omega
      simp [L3.evSs, L3.evS.eq_1, L3.evS.eq_2, L3.evS.eq_3, L3.evS.eq_4, L3.evS.eq_5, L3.evS.eq_6, L3.evS.eq_9, L3.evS.eq_10, L3.evS.eq_11, L3.evS.eq_12, L3.evS.eq_13, L3.evS.eq_14, L3.evE.eq_1, L3.evE.eq_2, L3.evE.eq_3, L3.evE.eq_4, L3.evE.eq_5, L3.evE.eq_6, L3.evE.eq_7, L3.evE.eq_8, L3.evE.eq_9, L3.evE.eq_10, L3.evE.eq_11, L3.evE.eq_12, L3.evE.eq_13, L3.evE.eq_14, L3.evE.eq_15, L3.evE.eq_16, L3.evE.eq_18, L3.evE.eq_19, L3.evE.eq_20, L3.evE.eq_21, L3.evA, L3.evP, Law.evS_whlR, Law.evS_frR, Law.evE_lcR, Law.frR_nil, Law.frR_cons, Law.lcR_nil, Law.lcR_cons, L3.argOf, L3.Rs.bind, L3.opFin, L3.avDs, L3.avD, L3.vDs, L3.Op.keeps, L3.Op.run, L3.i1, L3.i2, L3.a1, L3.a2, L3.l1, L3.gd, L3.oB, L3.oI, L3.toB, L3.toI, L3.rdVar, L3.mvVar, L3.stVar, L3.stR, L3.stTg, L3.stVars, L3.stVarsO, L3.passA, L3.backA, L3.doCall, L3.cellOf, L3.start3, Law.outs1, Law.outs2, Law.outs3, Law.outs4, L3.resOf, L3.runFn, L3.keepB, L3.Ow.isB, L3.Ow.isOwn, L3.isTys, L3.isTy, L3.itFin, L3.ItK.run, L3.kRng1, L3.kRng2, L3.kSeq, L3.seqD, L3.seqD2, L3.kEnm, L3.enmD, Law.fit_of, Law.fit3, L3.noEr, L3.slFin, L3.slice3, L3.shE, L3.Tg.slots, L3.wipeE, L3.restE, L3.asB, Law.sz0, Law.sz1, Law.sz2, L3.rAdd3, L3.rLen3, L3.rLt3, L3.rIdx3, Law.at30, Law.at31, Law.at32, Law.at20, Law.at21, L3.isNone, Law.eqD_int, Law.md0, Law.md1, Law.md2, Law.md3, Law.md4, Law.md5, Law.md6, Law.md7, Law.md8, Law.md9, Law.md10, Law.md11, Law.md12, Law.md13, Law.md14, Law.md15, Law.md16, Law.md17, Law.md18, Law.md19, Law.md20, Law.md21, Law.md22, Law.md23, Law.md24, Law.md25, Law.md26, Law.md27, Law.md28, c_isint, mokS, MSS, mokQ, MSSS, h1, erN]
    | _ => cases hi
/-- the least first count -/
def Fst (one other number x : Int) : Prop := 0 ≤ x ∧ x < other ∧ other ∣ number - x * one
theorem co_dvd {a b z : Int} (c : Co a b) (ha : 0 < a) (hb : 0 < b) (h : b ∣ z * a) : b ∣ z := by
  have h1 : Int.gcd b a = 1 := by
    have : ((Int.gcd b a : Nat) : Int) ∣ 1 := c _ (Int.gcd_dvd_right ..) (Int.gcd_dvd_left ..)
    have := Int.eq_one_of_dvd_one (by omega) this
    omega
  rw [← Int.dvd_mul_gcd_iff_dvd_mul, h1] at h
  simpa using h
theorem Fst.uniq {one other number x y : Int} (c : Co one other) (h1 : 0 < one) (hx : Fst one other number x) (hy : Fst one other number y) : x = y := by
  obtain ⟨x0, x1, x2⟩ := hx
  obtain ⟨y0, y1, y2⟩ := hy
  have h2 : 0 < other := by omega
  have h3 : other ∣ (x - y) * one := by
    have := Int.dvd_sub y2 x2
    have e : number - y * one - (number - x * one) = (x - y) * one := by rw [Int.sub_mul]; omega
    rwa [e] at this
  have h4 := co_dvd c h1 h2 h3
  obtain ⟨k, hk⟩ := h4
  by_cases hk0 : k = 0
  · subst hk0; omega
  · rcases Int.lt_or_gt_of_ne hk0 with z | z
    · have := Int.mul_le_mul_of_nonneg_left (show k ≤ -1 by omega) (Int.le_of_lt h2); omega
    · have := Int.mul_le_mul_of_nonneg_left (show 1 ≤ k by omega) (Int.le_of_lt h2); omega
theorem fst_of {one other number v : Int} (h2 : 0 < other) (h : Inv1 other one v) : Fst one other number (number * v % other) := by
  refine ⟨Int.emod_nonneg _ (by omega), Int.emod_lt_of_pos _ h2, ?_⟩
  have e := Int.emod_add_mul_ediv (number * v) other
  have : number - number * v % other * one = other * (number * v / other * one) - number * (v * one - 1) := by
    have e2 : number * v % other = number * v - other * (number * v / other) := by omega
    rw [e2, Int.sub_mul, Int.mul_sub, Int.mul_assoc, Int.mul_assoc]
    omega
  rw [this]
  exact Int.dvd_sub ⟨_, rfl⟩ (Int.dvd_trans h.2.2 (Int.dvd_mul_left _ _))
theorem Inv1.lt {m one v : Int} (h : Inv1 m one v) (hm : Coin m) : v.natAbs < 2 ^ 333 := nat_lt h.1 (Int.lt_trans h.2.1 hm.lt)
theorem c_first (n : Nat) {one other number : Int} (h1 : Coin one) (h2 : Coin other) (c : Co one other) (hn : Num number) : ∃ x, Fst one other number x ∧ callD tb WN (n + 2) 6 [(false, .int one), (false, .int other), (false, .int number)] = .ok (.int x) false [none, none, none] := by
  obtain ⟨v, i1, i2⟩ := c_inverse n h1 h2 c
  have m0 : 0 < other := by have := h2.1; omega
  refine ⟨_, fst_of m0 i1, ?_⟩
  have k : mulOk number v = true := mulB 997 (by decide) (by decide) hn.lt (up_lt 997 (by decide) (i1.lt h2))
  rw [u6]; unfold fn_first_count
  simp [L3.evSs, L3.evS.eq_1, L3.evS.eq_2, L3.evS.eq_3, L3.evS.eq_4, L3.evS.eq_5, L3.evS.eq_6, L3.evS.eq_9, L3.evS.eq_10, L3.evS.eq_11, L3.evS.eq_12, L3.evS.eq_13, L3.evS.eq_14, L3.evE.eq_1, L3.evE.eq_2, L3.evE.eq_3, L3.evE.eq_4, L3.evE.eq_5, L3.evE.eq_6, L3.evE.eq_7, L3.evE.eq_8, L3.evE.eq_9, L3.evE.eq_10, L3.evE.eq_11, L3.evE.eq_12, L3.evE.eq_13, L3.evE.eq_14, L3.evE.eq_15, L3.evE.eq_16, L3.evE.eq_18, L3.evE.eq_19, L3.evE.eq_20, L3.evE.eq_21, L3.evA, L3.evP, Law.evS_whlR, Law.evS_frR, Law.evE_lcR, Law.frR_nil, Law.frR_cons, Law.lcR_nil, Law.lcR_cons, L3.argOf, L3.Rs.bind, L3.opFin, L3.avDs, L3.avD, L3.vDs, L3.Op.keeps, L3.Op.run, L3.i1, L3.i2, L3.a1, L3.a2, L3.l1, L3.gd, L3.oB, L3.oI, L3.toB, L3.toI, L3.rdVar, L3.mvVar, L3.stVar, L3.stR, L3.stTg, L3.stVars, L3.stVarsO, L3.passA, L3.backA, L3.doCall, L3.cellOf, L3.start3, Law.outs1, Law.outs2, Law.outs3, Law.outs4, L3.resOf, L3.runFn, L3.keepB, L3.Ow.isB, L3.Ow.isOwn, L3.isTys, L3.isTy, L3.itFin, L3.ItK.run, L3.kRng1, L3.kRng2, L3.kSeq, L3.seqD, L3.seqD2, L3.kEnm, L3.enmD, Law.fit_of, Law.fit3, L3.noEr, L3.slFin, L3.slice3, L3.shE, L3.Tg.slots, L3.wipeE, L3.restE, L3.asB, Law.sz0, Law.sz1, Law.sz2, L3.rAdd3, L3.rLen3, L3.rLt3, L3.rIdx3, Law.at30, Law.at31, Law.at32, Law.at20, Law.at21, L3.isNone, Law.eqD_int, Law.md0, Law.md1, Law.md2, Law.md3, Law.md4, Law.md5, Law.md6, Law.md7, Law.md8, Law.md9, Law.md10, Law.md11, Law.md12, Law.md13, Law.md14, Law.md15, Law.md16, Law.md17, Law.md18, Law.md19, Law.md20, Law.md21, Law.md22, Law.md23, Law.md24, Law.md25, Law.md26, Law.md27, Law.md28, i2, k, m0]
theorem c_split (n : Nat) {one other number : Int} (h1 : Coin one) (h2 : Coin other) (c : Co one other) (hn : Num number) : ∃ x, Fst one other number x ∧ callD tb WN (n + 2) 18 [(false, .int one), (false, .int other), (false, .int number)] = .ok (.tup [.int x, .int ((number - x * one) / other)]) false [none, none, none] := by
  obtain ⟨v, i1, i2⟩ := c_turned n h1 h2 c
  have m0 : 0 < other := by have := h2.1; omega
  have f := fst_of (number := number) m0 i1
  refine ⟨_, f, ?_⟩
  have k : mulOk number v = true := mulB 997 (by decide) (by decide) hn.lt (up_lt 997 (by decide) (i1.lt h2))
  rw [u18]; unfold fn__law_split
  generalize hx : number * v % other = x at f
  have k2 : mulOk one x = true := mulB 997 (by decide) (by decide) (up_lt 997 (by decide) h1.nlt) (up_lt 997 (by decide) (nat_lt f.1 (Int.lt_trans f.2.1 h2.lt)))
  have k3 : divOk (number - one * x) other = true := divB 333 (by decide) m0 h2.nlt
  rw [Int.mul_comm x one]
  simp [L3.evSs, L3.evS.eq_1, L3.evS.eq_2, L3.evS.eq_3, L3.evS.eq_4, L3.evS.eq_5, L3.evS.eq_6, L3.evS.eq_9, L3.evS.eq_10, L3.evS.eq_11, L3.evS.eq_12, L3.evS.eq_13, L3.evS.eq_14, L3.evE.eq_1, L3.evE.eq_2, L3.evE.eq_3, L3.evE.eq_4, L3.evE.eq_5, L3.evE.eq_6, L3.evE.eq_7, L3.evE.eq_8, L3.evE.eq_9, L3.evE.eq_10, L3.evE.eq_11, L3.evE.eq_12, L3.evE.eq_13, L3.evE.eq_14, L3.evE.eq_15, L3.evE.eq_16, L3.evE.eq_18, L3.evE.eq_19, L3.evE.eq_20, L3.evE.eq_21, L3.evA, L3.evP, Law.evS_whlR, Law.evS_frR, Law.evE_lcR, Law.frR_nil, Law.frR_cons, Law.lcR_nil, Law.lcR_cons, L3.argOf, L3.Rs.bind, L3.opFin, L3.avDs, L3.avD, L3.vDs, L3.Op.keeps, L3.Op.run, L3.i1, L3.i2, L3.a1, L3.a2, L3.l1, L3.gd, L3.oB, L3.oI, L3.toB, L3.toI, L3.rdVar, L3.mvVar, L3.stVar, L3.stR, L3.stTg, L3.stVars, L3.stVarsO, L3.passA, L3.backA, L3.doCall, L3.cellOf, L3.start3, Law.outs1, Law.outs2, Law.outs3, Law.outs4, L3.resOf, L3.runFn, L3.keepB, L3.Ow.isB, L3.Ow.isOwn, L3.isTys, L3.isTy, L3.itFin, L3.ItK.run, L3.kRng1, L3.kRng2, L3.kSeq, L3.seqD, L3.seqD2, L3.kEnm, L3.enmD, Law.fit_of, Law.fit3, L3.noEr, L3.slFin, L3.slice3, L3.shE, L3.Tg.slots, L3.wipeE, L3.restE, L3.asB, Law.sz0, Law.sz1, Law.sz2, L3.rAdd3, L3.rLen3, L3.rLt3, L3.rIdx3, Law.at30, Law.at31, Law.at32, Law.at20, Law.at21, L3.isNone, Law.eqD_int, Law.md0, Law.md1, Law.md2, Law.md3, Law.md4, Law.md5, Law.md6, Law.md7, Law.md8, Law.md9, Law.md10, Law.md11, Law.md12, Law.md13, Law.md14, Law.md15, Law.md16, Law.md17, Law.md18, Law.md19, Law.md20, Law.md21, Law.md22, Law.md23, Law.md24, Law.md25, Law.md26, Law.md27, Law.md28, i2, k, m0, hx, k2, k3]
end Law

namespace Law
open PySem PySem.Spec PyProof.Rows L2 L3
/-- split by the least first count -/
structure Spl (one other number x y : Int) : Prop where
  x0 : 0 ≤ x
  x1 : x < other
  e : number - x * one = y * other
theorem Fst.spl {one other number x : Int} (h : Fst one other number x) : Spl one other number x ((number - x * one) / other) :=
  ⟨h.1, h.2.1, (Int.ediv_mul_cancel h.2.2).symm⟩
theorem Spl.fst {one other number x y : Int} (h : Spl one other number x y) : Fst one other number x := ⟨h.x0, h.x1, ⟨y, by rw [h.e, Int.mul_comm]⟩⟩
theorem Spl.div {one other number x y : Int} (h : Spl one other number x y) (h2 : 0 < other) : (number - x * one) / other = y := by
  rw [h.e]; exact Int.mul_ediv_cancel _ (by omega)
theorem Spl.nn {one other number x y : Int} (h : Spl one other number x y) (h2 : 0 < other) : x * one ≤ number ↔ 0 ≤ y := by
  have e : x * one ≤ number ↔ 0 ≤ number - x * one := by omega
  rw [e, h.e]
  constructor
  · intro z
    apply Classical.byContradiction
    intro k
    have := Int.mul_le_mul_of_nonneg_right (show y ≤ -1 by omega) (Int.le_of_lt h2)
    omega
  · intro z; exact Int.mul_nonneg z (by omega)
/-- a question: coins without a common divisor, a number -/
structure Qu (one other number : Int) : Prop where
  c1 : Coin one
  c2 : Coin other
  co : Co one other
  nm : Num number
theorem Qu.swap {a b n : Int} (q : Qu a b n) : Qu b a n := ⟨q.c2, q.c1, q.co.symm, q.nm⟩
theorem Qu.p1 {a b n : Int} (q : Qu a b n) : 0 < a := by have := q.c1.1; omega
theorem Qu.p2 {a b n : Int} (q : Qu a b n) : 0 < b := by have := q.c2.1; omega
theorem c_fst (n : Nat) {one other number x y : Int} (q : Qu one other number) (s : Spl one other number x y) : callD tb WN (n + 2) 6 [(false, .int one), (false, .int other), (false, .int number)] = .ok (.int x) false [none, none, none] := by
  obtain ⟨x', f, e⟩ := c_first n q.c1 q.c2 q.co q.nm
  rw [Fst.uniq q.co q.p1 s.fst f]; exact e
theorem ex_spl {one other number : Int} (q : Qu one other number) : ∃ x y, Spl one other number x y := by
  obtain ⟨x, f, _⟩ := c_first 0 q.c1 q.c2 q.co q.nm
  exact ⟨_, _, f.spl⟩
theorem c_spl (n : Nat) {one other number x y : Int} (q : Qu one other number) (s : Spl one other number x y) : callD tb WN (n + 2) 18 [(false, .int one), (false, .int other), (false, .int number)] = .ok (.tup [.int x, .int y]) false [none, none, none] := by
  obtain ⟨x', f, e⟩ := c_split n q.c1 q.c2 q.co q.nm
  have h := Fst.uniq q.co q.p1 s.fst f
  subst h
  rw [s.div q.p2] at e
  exact e
theorem Spl.xlt {one other number x y : Int} (s : Spl one other number x y) (h : Coin other) : x.natAbs < 2 ^ 333 := nat_lt s.x0 (Int.lt_trans s.x1 h.lt)
theorem mul_xo {one other number x y : Int} (q : Qu one other number) (s : Spl one other number x y) : mulOk x one = true := mulB 333 (by decide) (by decide) (s.xlt q.c2) q.c1.nlt
theorem div_o {one other number : Int} (q : Qu one other number) (r : Int) : divOk r other = true := divB 333 (by decide) q.p2 q.c2.nlt
theorem div_oo {one other number : Int} (q : Qu one other number) (r : Int) : divOk r (one * other) = true := divB 666 (by decide) (Int.mul_pos q.p1 q.p2) (by
  rw [Int.natAbs_mul, show (666 : Nat) = 333 + 333 from rfl, Nat.pow_add]
  exact Nat.mul_lt_mul'' q.c1.nlt q.c2.nlt)
theorem mul_oo {one other number : Int} (q : Qu one other number) : mulOk one other = true := mulB 333 (by decide) (by decide) q.c1.nlt q.c2.nlt
def payD (x y : Int) : D := if 0 ≤ y then .tup [.int x, .int y] else .non
def intD (y v : Int) : D := if 0 ≤ y then .int v else .non
theorem c_pay (n : Nat) {one other number x y : Int} (q : Qu one other number) (s : Spl one other number x y) : callD tb WN (n + 3) 7 [(false, .int one), (false, .int other), (false, .int number)] = .ok (payD x y) false [none, none, none] := by
  rw [u7]; unfold fn_two_pay
  have e1 := c_check_two n q.c1 q.c2 q.co
  have e2 := c_check_number n q.nm
  have e3 := c_fst n q s
  have k1 := mul_xo q s
  have k2 := div_o q (number - x * one)
  have k3 := s.div q.p2
  have k4 := s.nn q.p2
  unfold payD
  by_cases h : 0 ≤ y
  · have h2 := k4.mpr h
    rw [if_pos h]
    simp [L3.evSs, L3.evS.eq_1, L3.evS.eq_2, L3.evS.eq_3, L3.evS.eq_4, L3.evS.eq_5, L3.evS.eq_6, L3.evS.eq_9, L3.evS.eq_10, L3.evS.eq_11, L3.evS.eq_12, L3.evS.eq_13, L3.evS.eq_14, L3.evE.eq_1, L3.evE.eq_2, L3.evE.eq_3, L3.evE.eq_4, L3.evE.eq_5, L3.evE.eq_6, L3.evE.eq_7, L3.evE.eq_8, L3.evE.eq_9, L3.evE.eq_10, L3.evE.eq_11, L3.evE.eq_12, L3.evE.eq_13, L3.evE.eq_14, L3.evE.eq_15, L3.evE.eq_16, L3.evE.eq_18, L3.evE.eq_19, L3.evE.eq_20, L3.evE.eq_21, L3.evA, L3.evP, Law.evS_whlR, Law.evS_frR, Law.evE_lcR, Law.frR_nil, Law.frR_cons, Law.lcR_nil, Law.lcR_cons, L3.argOf, L3.Rs.bind, L3.opFin, L3.avDs, L3.avD, L3.vDs, L3.Op.keeps, L3.Op.run, L3.i1, L3.i2, L3.a1, L3.a2, L3.l1, L3.gd, L3.oB, L3.oI, L3.toB, L3.toI, L3.rdVar, L3.mvVar, L3.stVar, L3.stR, L3.stTg, L3.stVars, L3.stVarsO, L3.passA, L3.backA, L3.doCall, L3.cellOf, L3.start3, Law.outs1, Law.outs2, Law.outs3, Law.outs4, L3.resOf, L3.runFn, L3.keepB, L3.Ow.isB, L3.Ow.isOwn, L3.isTys, L3.isTy, L3.itFin, L3.ItK.run, L3.kRng1, L3.kRng2, L3.kSeq, L3.seqD, L3.seqD2, L3.kEnm, L3.enmD, Law.fit_of, Law.fit3, L3.noEr, L3.slFin, L3.slice3, L3.shE, L3.Tg.slots, L3.wipeE, L3.restE, L3.asB, Law.sz0, Law.sz1, Law.sz2, L3.rAdd3, L3.rLen3, L3.rLt3, L3.rIdx3, Law.at30, Law.at31, Law.at32, Law.at20, Law.at21, L3.isNone, Law.eqD_int, Law.md0, Law.md1, Law.md2, Law.md3, Law.md4, Law.md5, Law.md6, Law.md7, Law.md8, Law.md9, Law.md10, Law.md11, Law.md12, Law.md13, Law.md14, Law.md15, Law.md16, Law.md17, Law.md18, Law.md19, Law.md20, Law.md21, Law.md22, Law.md23, Law.md24, Law.md25, Law.md26, Law.md27, Law.md28, e1, e2, e3, k1, k2, k3, h2]
  · have h2 : ¬ (x * one ≤ number) := fun z => h (k4.mp z)
    rw [if_neg h]
    simp [L3.evSs, L3.evS.eq_1, L3.evS.eq_2, L3.evS.eq_3, L3.evS.eq_4, L3.evS.eq_5, L3.evS.eq_6, L3.evS.eq_9, L3.evS.eq_10, L3.evS.eq_11, L3.evS.eq_12, L3.evS.eq_13, L3.evS.eq_14, L3.evE.eq_1, L3.evE.eq_2, L3.evE.eq_3, L3.evE.eq_4, L3.evE.eq_5, L3.evE.eq_6, L3.evE.eq_7, L3.evE.eq_8, L3.evE.eq_9, L3.evE.eq_10, L3.evE.eq_11, L3.evE.eq_12, L3.evE.eq_13, L3.evE.eq_14, L3.evE.eq_15, L3.evE.eq_16, L3.evE.eq_18, L3.evE.eq_19, L3.evE.eq_20, L3.evE.eq_21, L3.evA, L3.evP, Law.evS_whlR, Law.evS_frR, Law.evE_lcR, Law.frR_nil, Law.frR_cons, Law.lcR_nil, Law.lcR_cons, L3.argOf, L3.Rs.bind, L3.opFin, L3.avDs, L3.avD, L3.vDs, L3.Op.keeps, L3.Op.run, L3.i1, L3.i2, L3.a1, L3.a2, L3.l1, L3.gd, L3.oB, L3.oI, L3.toB, L3.toI, L3.rdVar, L3.mvVar, L3.stVar, L3.stR, L3.stTg, L3.stVars, L3.stVarsO, L3.passA, L3.backA, L3.doCall, L3.cellOf, L3.start3, Law.outs1, Law.outs2, Law.outs3, Law.outs4, L3.resOf, L3.runFn, L3.keepB, L3.Ow.isB, L3.Ow.isOwn, L3.isTys, L3.isTy, L3.itFin, L3.ItK.run, L3.kRng1, L3.kRng2, L3.kSeq, L3.seqD, L3.seqD2, L3.kEnm, L3.enmD, Law.fit_of, Law.fit3, L3.noEr, L3.slFin, L3.slice3, L3.shE, L3.Tg.slots, L3.wipeE, L3.restE, L3.asB, Law.sz0, Law.sz1, Law.sz2, L3.rAdd3, L3.rLen3, L3.rLt3, L3.rIdx3, Law.at30, Law.at31, Law.at32, Law.at20, Law.at21, L3.isNone, Law.eqD_int, Law.md0, Law.md1, Law.md2, Law.md3, Law.md4, Law.md5, Law.md6, Law.md7, Law.md8, Law.md9, Law.md10, Law.md11, Law.md12, Law.md13, Law.md14, Law.md15, Law.md16, Law.md17, Law.md18, Law.md19, Law.md20, Law.md21, Law.md22, Law.md23, Law.md24, Law.md25, Law.md26, Law.md27, Law.md28, e1, e2, e3, k1, h2]
theorem c_signed (n : Nat) {one other number x y : Int} (q : Qu one other number) (s : Spl one other number x y) : callD tb WN (n + 3) 11 [(false, .int one), (false, .int other), (false, .int number)] = .ok (.tup [.int x, .int y]) false [none, none, none] := by
  rw [u11]; unfold fn_two_signed
  have e1 := c_check_two n q.c1 q.c2 q.co
  have e2 := c_check_number n q.nm
  have e3 := c_fst n q s
  have k1 := mul_xo q s
  have k2 := div_o q (number - x * one)
  have k3 := s.div q.p2
  simp [L3.evSs, L3.evS.eq_1, L3.evS.eq_2, L3.evS.eq_3, L3.evS.eq_4, L3.evS.eq_5, L3.evS.eq_6, L3.evS.eq_9, L3.evS.eq_10, L3.evS.eq_11, L3.evS.eq_12, L3.evS.eq_13, L3.evS.eq_14, L3.evE.eq_1, L3.evE.eq_2, L3.evE.eq_3, L3.evE.eq_4, L3.evE.eq_5, L3.evE.eq_6, L3.evE.eq_7, L3.evE.eq_8, L3.evE.eq_9, L3.evE.eq_10, L3.evE.eq_11, L3.evE.eq_12, L3.evE.eq_13, L3.evE.eq_14, L3.evE.eq_15, L3.evE.eq_16, L3.evE.eq_18, L3.evE.eq_19, L3.evE.eq_20, L3.evE.eq_21, L3.evA, L3.evP, Law.evS_whlR, Law.evS_frR, Law.evE_lcR, Law.frR_nil, Law.frR_cons, Law.lcR_nil, Law.lcR_cons, L3.argOf, L3.Rs.bind, L3.opFin, L3.avDs, L3.avD, L3.vDs, L3.Op.keeps, L3.Op.run, L3.i1, L3.i2, L3.a1, L3.a2, L3.l1, L3.gd, L3.oB, L3.oI, L3.toB, L3.toI, L3.rdVar, L3.mvVar, L3.stVar, L3.stR, L3.stTg, L3.stVars, L3.stVarsO, L3.passA, L3.backA, L3.doCall, L3.cellOf, L3.start3, Law.outs1, Law.outs2, Law.outs3, Law.outs4, L3.resOf, L3.runFn, L3.keepB, L3.Ow.isB, L3.Ow.isOwn, L3.isTys, L3.isTy, L3.itFin, L3.ItK.run, L3.kRng1, L3.kRng2, L3.kSeq, L3.seqD, L3.seqD2, L3.kEnm, L3.enmD, Law.fit_of, Law.fit3, L3.noEr, L3.slFin, L3.slice3, L3.shE, L3.Tg.slots, L3.wipeE, L3.restE, L3.asB, Law.sz0, Law.sz1, Law.sz2, L3.rAdd3, L3.rLen3, L3.rLt3, L3.rIdx3, Law.at30, Law.at31, Law.at32, Law.at20, Law.at21, L3.isNone, Law.eqD_int, Law.md0, Law.md1, Law.md2, Law.md3, Law.md4, Law.md5, Law.md6, Law.md7, Law.md8, Law.md9, Law.md10, Law.md11, Law.md12, Law.md13, Law.md14, Law.md15, Law.md16, Law.md17, Law.md18, Law.md19, Law.md20, Law.md21, Law.md22, Law.md23, Law.md24, Law.md25, Law.md26, Law.md27, Law.md28, e1, e2, e3, k1, k2, k3]
theorem c_ways (n : Nat) {one other number x y : Int} (q : Qu one other number) (s : Spl one other number x y) : callD tb WN (n + 3) 8 [(false, .int one), (false, .int other), (false, .int number)] = .ok (.int (if 0 ≤ y then y / one + 1 else 0)) false [none, none, none] := by
  rw [u8]; unfold fn_two_ways
  have e1 := c_check_two n q.c1 q.c2 q.co
  have e2 := c_check_number n q.nm
  have e3 := c_fst n q s
  have k1 := mul_xo q s
  have k2 := div_oo q (number - x * one)
  have k5 := mul_oo q
  have k3 : (number - x * one) / (one * other) = y / one := by rw [s.e]; exact Int.mul_ediv_mul_of_pos_left _ _ q.p2
  have k4 := s.nn q.p2
  by_cases h : 0 ≤ y
  · have h2 := k4.mpr h
    rw [if_pos h]
    simp [L3.evSs, L3.evS.eq_1, L3.evS.eq_2, L3.evS.eq_3, L3.evS.eq_4, L3.evS.eq_5, L3.evS.eq_6, L3.evS.eq_9, L3.evS.eq_10, L3.evS.eq_11, L3.evS.eq_12, L3.evS.eq_13, L3.evS.eq_14, L3.evE.eq_1, L3.evE.eq_2, L3.evE.eq_3, L3.evE.eq_4, L3.evE.eq_5, L3.evE.eq_6, L3.evE.eq_7, L3.evE.eq_8, L3.evE.eq_9, L3.evE.eq_10, L3.evE.eq_11, L3.evE.eq_12, L3.evE.eq_13, L3.evE.eq_14, L3.evE.eq_15, L3.evE.eq_16, L3.evE.eq_18, L3.evE.eq_19, L3.evE.eq_20, L3.evE.eq_21, L3.evA, L3.evP, Law.evS_whlR, Law.evS_frR, Law.evE_lcR, Law.frR_nil, Law.frR_cons, Law.lcR_nil, Law.lcR_cons, L3.argOf, L3.Rs.bind, L3.opFin, L3.avDs, L3.avD, L3.vDs, L3.Op.keeps, L3.Op.run, L3.i1, L3.i2, L3.a1, L3.a2, L3.l1, L3.gd, L3.oB, L3.oI, L3.toB, L3.toI, L3.rdVar, L3.mvVar, L3.stVar, L3.stR, L3.stTg, L3.stVars, L3.stVarsO, L3.passA, L3.backA, L3.doCall, L3.cellOf, L3.start3, Law.outs1, Law.outs2, Law.outs3, Law.outs4, L3.resOf, L3.runFn, L3.keepB, L3.Ow.isB, L3.Ow.isOwn, L3.isTys, L3.isTy, L3.itFin, L3.ItK.run, L3.kRng1, L3.kRng2, L3.kSeq, L3.seqD, L3.seqD2, L3.kEnm, L3.enmD, Law.fit_of, Law.fit3, L3.noEr, L3.slFin, L3.slice3, L3.shE, L3.Tg.slots, L3.wipeE, L3.restE, L3.asB, Law.sz0, Law.sz1, Law.sz2, L3.rAdd3, L3.rLen3, L3.rLt3, L3.rIdx3, Law.at30, Law.at31, Law.at32, Law.at20, Law.at21, L3.isNone, Law.eqD_int, Law.md0, Law.md1, Law.md2, Law.md3, Law.md4, Law.md5, Law.md6, Law.md7, Law.md8, Law.md9, Law.md10, Law.md11, Law.md12, Law.md13, Law.md14, Law.md15, Law.md16, Law.md17, Law.md18, Law.md19, Law.md20, Law.md21, Law.md22, Law.md23, Law.md24, Law.md25, Law.md26, Law.md27, Law.md28, e1, e2, e3, k1, k2, k3, k5, h2]
  · have h2 : ¬ (x * one ≤ number) := fun z => h (k4.mp z)
    rw [if_neg h]
    simp [L3.evSs, L3.evS.eq_1, L3.evS.eq_2, L3.evS.eq_3, L3.evS.eq_4, L3.evS.eq_5, L3.evS.eq_6, L3.evS.eq_9, L3.evS.eq_10, L3.evS.eq_11, L3.evS.eq_12, L3.evS.eq_13, L3.evS.eq_14, L3.evE.eq_1, L3.evE.eq_2, L3.evE.eq_3, L3.evE.eq_4, L3.evE.eq_5, L3.evE.eq_6, L3.evE.eq_7, L3.evE.eq_8, L3.evE.eq_9, L3.evE.eq_10, L3.evE.eq_11, L3.evE.eq_12, L3.evE.eq_13, L3.evE.eq_14, L3.evE.eq_15, L3.evE.eq_16, L3.evE.eq_18, L3.evE.eq_19, L3.evE.eq_20, L3.evE.eq_21, L3.evA, L3.evP, Law.evS_whlR, Law.evS_frR, Law.evE_lcR, Law.frR_nil, Law.frR_cons, Law.lcR_nil, Law.lcR_cons, L3.argOf, L3.Rs.bind, L3.opFin, L3.avDs, L3.avD, L3.vDs, L3.Op.keeps, L3.Op.run, L3.i1, L3.i2, L3.a1, L3.a2, L3.l1, L3.gd, L3.oB, L3.oI, L3.toB, L3.toI, L3.rdVar, L3.mvVar, L3.stVar, L3.stR, L3.stTg, L3.stVars, L3.stVarsO, L3.passA, L3.backA, L3.doCall, L3.cellOf, L3.start3, Law.outs1, Law.outs2, Law.outs3, Law.outs4, L3.resOf, L3.runFn, L3.keepB, L3.Ow.isB, L3.Ow.isOwn, L3.isTys, L3.isTy, L3.itFin, L3.ItK.run, L3.kRng1, L3.kRng2, L3.kSeq, L3.seqD, L3.seqD2, L3.kEnm, L3.enmD, Law.fit_of, Law.fit3, L3.noEr, L3.slFin, L3.slice3, L3.shE, L3.Tg.slots, L3.wipeE, L3.restE, L3.asB, Law.sz0, Law.sz1, Law.sz2, L3.rAdd3, L3.rLen3, L3.rLt3, L3.rIdx3, Law.at30, Law.at31, Law.at32, Law.at20, Law.at21, L3.isNone, Law.eqD_int, Law.md0, Law.md1, Law.md2, Law.md3, Law.md4, Law.md5, Law.md6, Law.md7, Law.md8, Law.md9, Law.md10, Law.md11, Law.md12, Law.md13, Law.md14, Law.md15, Law.md16, Law.md17, Law.md18, Law.md19, Law.md20, Law.md21, Law.md22, Law.md23, Law.md24, Law.md25, Law.md26, Law.md27, Law.md28, e1, e2, e3, k1, h2]
/-- the other way about -/
theorem Spl.swap {one other number x y : Int} (h : Spl one other number x y) (h1 : 0 < one) : Spl other one number (y % one) (x + y / one * other) := by
  refine ⟨Int.emod_nonneg _ (by omega), Int.emod_lt_of_pos _ h1, ?_⟩
  have e := Int.emod_add_mul_ediv y one
  have e1 : y % one = y - one * (y / one) := by omega
  have e2 := h.e
  rw [e1, Int.sub_mul, Int.add_mul, Int.mul_assoc, Int.mul_comm one (y / one * other)]
  have : one * (y / one * other) = y / one * other * one := Int.mul_comm _ _
  omega
theorem Spl.sw0 {one other number x y : Int} (h : Spl one other number x y) (h1 : 0 < one) : 0 ≤ x + y / one * other ↔ 0 ≤ y := by
  have h0 := h.x0
  have h2 := h.x1
  constructor
  · intro z
    apply Classical.byContradiction
    intro k
    have k1 : y / one ≤ -1 := by
      have := Int.ediv_neg_of_neg_of_pos (show y < 0 by omega) h1
      omega
    have := Int.mul_le_mul_of_nonneg_right k1 (show 0 ≤ other by omega)
    omega
  · intro z
    have := Int.mul_nonneg (Int.ediv_nonneg z (show 0 ≤ one by omega)) (show 0 ≤ other by omega)
    omega
/-- coins of the two outermost payments -/
def en1 (x y : Int) : Int := x + y
def en2 (one other x y : Int) : Int := x + y / one * other + y - y / one * one
theorem en2_eq {one other x y : Int} : y % one + (x + y / one * other) = en2 one other x y := by
  have e := Int.emod_add_mul_ediv y one
  unfold en2
  rw [Int.mul_comm] at e
  omega
theorem ends_le {one other number x y : Int} (s : Spl one other number x y) (h1 : 0 < one) (hy : 0 ≤ y) : (one ≤ other → en1 x y ≤ en2 one other x y) ∧ (other ≤ one → en2 one other x y ≤ en1 x y) := by
  have k := Int.ediv_nonneg hy (show 0 ≤ one by omega)
  unfold en1 en2
  constructor
  · intro z
    have := Int.mul_le_mul_of_nonneg_left z k
    omega
  · intro z
    have := Int.mul_le_mul_of_nonneg_left z k
    omega
def mnI (a b : Int) : Int := if a ≤ b then a else b
def mxI (a b : Int) : Int := if b ≤ a then a else b
theorem low_core (n : Nat) {one other number x y : Int} (q : Qu one other number) (s : Spl one other number x y) (hle : one ≤ other) :
    callD tb WN (n + 3) 9 [(false, .int one), (false, .int other), (false, .int number)] = .ok (intD y (mnI (en1 x y) (en2 one other x y))) false [none, none, none] ∧
    callD tb WN (n + 3) 10 [(false, .int one), (false, .int other), (false, .int number)] = .ok (intD y (mxI (en1 x y) (en2 one other x y))) false [none, none, none] := by
  have e1 := c_check_two n q.c1 q.c2 q.co
  have e2 := c_check_number n q.nm
  have s' := s.swap q.p1
  have q' := q.swap
  have e3 := c_fst n q s
  have e4 := c_fst n q' s'
  have k1 := mul_xo q s
  have k2 := div_o q (number - x * one)
  have k3 := s.div q.p2
  have k4 := s.nn q.p2
  have l1 := mul_xo q' s'
  have l2 := div_o q' (number - y % one * other)
  have l3 := s'.div q'.p2
  have l4 := (s'.nn q'.p2).trans (s.sw0 q.p1)
  have l5 : y % one + (x + y / one * other) = en2 one other x y := en2_eq
  have mn : (if other < one then other else one) = one := if_neg (by omega)
  have mx : (if one < other then other else one) = other := by split <;> omega
  have mm : (if other > one then other else one) = other := by split <;> omega
  unfold intD
  generalize y % one = x' at *
  generalize x + y / one * other = y' at *
  by_cases h : 0 ≤ y
  · have h2 := k4.mpr h
    have h3 := l4.mpr h
    have hh := (ends_le s q.p1 h).1 hle
    have w1 : mnI (en1 x y) (en2 one other x y) = x + y := by unfold mnI; rw [if_pos hh]; rfl
    have w2 : mxI (en1 x y) (en2 one other x y) = x' + y' := by rw [l5]; unfold mxI; split <;> omega
    rw [if_pos h, if_pos h, w1, w2]
    constructor
    · rw [u9]; unfold fn_two_fewest
      simp [L3.evSs, L3.evS.eq_1, L3.evS.eq_2, L3.evS.eq_3, L3.evS.eq_4, L3.evS.eq_5, L3.evS.eq_6, L3.evS.eq_9, L3.evS.eq_10, L3.evS.eq_11, L3.evS.eq_12, L3.evS.eq_13, L3.evS.eq_14, L3.evE.eq_1, L3.evE.eq_2, L3.evE.eq_3, L3.evE.eq_4, L3.evE.eq_5, L3.evE.eq_6, L3.evE.eq_7, L3.evE.eq_8, L3.evE.eq_9, L3.evE.eq_10, L3.evE.eq_11, L3.evE.eq_12, L3.evE.eq_13, L3.evE.eq_14, L3.evE.eq_15, L3.evE.eq_16, L3.evE.eq_18, L3.evE.eq_19, L3.evE.eq_20, L3.evE.eq_21, L3.evA, L3.evP, Law.evS_whlR, Law.evS_frR, Law.evE_lcR, Law.frR_nil, Law.frR_cons, Law.lcR_nil, Law.lcR_cons, L3.argOf, L3.Rs.bind, L3.opFin, L3.avDs, L3.avD, L3.vDs, L3.Op.keeps, L3.Op.run, L3.i1, L3.i2, L3.a1, L3.a2, L3.l1, L3.gd, L3.oB, L3.oI, L3.toB, L3.toI, L3.rdVar, L3.mvVar, L3.stVar, L3.stR, L3.stTg, L3.stVars, L3.stVarsO, L3.passA, L3.backA, L3.doCall, L3.cellOf, L3.start3, Law.outs1, Law.outs2, Law.outs3, Law.outs4, L3.resOf, L3.runFn, L3.keepB, L3.Ow.isB, L3.Ow.isOwn, L3.isTys, L3.isTy, L3.itFin, L3.ItK.run, L3.kRng1, L3.kRng2, L3.kSeq, L3.seqD, L3.seqD2, L3.kEnm, L3.enmD, Law.fit_of, Law.fit3, L3.noEr, L3.slFin, L3.slice3, L3.shE, L3.Tg.slots, L3.wipeE, L3.restE, L3.asB, Law.sz0, Law.sz1, Law.sz2, L3.rAdd3, L3.rLen3, L3.rLt3, L3.rIdx3, Law.at30, Law.at31, Law.at32, Law.at20, Law.at21, L3.isNone, Law.eqD_int, Law.md0, Law.md1, Law.md2, Law.md3, Law.md4, Law.md5, Law.md6, Law.md7, Law.md8, Law.md9, Law.md10, Law.md11, Law.md12, Law.md13, Law.md14, Law.md15, Law.md16, Law.md17, Law.md18, Law.md19, Law.md20, Law.md21, Law.md22, Law.md23, Law.md24, Law.md25, Law.md26, Law.md27, Law.md28, e1, e2, e3, k1, k2, k3, h2, mn, mx, mm]
    · rw [u10]; unfold fn_two_most
      simp [L3.evSs, L3.evS.eq_1, L3.evS.eq_2, L3.evS.eq_3, L3.evS.eq_4, L3.evS.eq_5, L3.evS.eq_6, L3.evS.eq_9, L3.evS.eq_10, L3.evS.eq_11, L3.evS.eq_12, L3.evS.eq_13, L3.evS.eq_14, L3.evE.eq_1, L3.evE.eq_2, L3.evE.eq_3, L3.evE.eq_4, L3.evE.eq_5, L3.evE.eq_6, L3.evE.eq_7, L3.evE.eq_8, L3.evE.eq_9, L3.evE.eq_10, L3.evE.eq_11, L3.evE.eq_12, L3.evE.eq_13, L3.evE.eq_14, L3.evE.eq_15, L3.evE.eq_16, L3.evE.eq_18, L3.evE.eq_19, L3.evE.eq_20, L3.evE.eq_21, L3.evA, L3.evP, Law.evS_whlR, Law.evS_frR, Law.evE_lcR, Law.frR_nil, Law.frR_cons, Law.lcR_nil, Law.lcR_cons, L3.argOf, L3.Rs.bind, L3.opFin, L3.avDs, L3.avD, L3.vDs, L3.Op.keeps, L3.Op.run, L3.i1, L3.i2, L3.a1, L3.a2, L3.l1, L3.gd, L3.oB, L3.oI, L3.toB, L3.toI, L3.rdVar, L3.mvVar, L3.stVar, L3.stR, L3.stTg, L3.stVars, L3.stVarsO, L3.passA, L3.backA, L3.doCall, L3.cellOf, L3.start3, Law.outs1, Law.outs2, Law.outs3, Law.outs4, L3.resOf, L3.runFn, L3.keepB, L3.Ow.isB, L3.Ow.isOwn, L3.isTys, L3.isTy, L3.itFin, L3.ItK.run, L3.kRng1, L3.kRng2, L3.kSeq, L3.seqD, L3.seqD2, L3.kEnm, L3.enmD, Law.fit_of, Law.fit3, L3.noEr, L3.slFin, L3.slice3, L3.shE, L3.Tg.slots, L3.wipeE, L3.restE, L3.asB, Law.sz0, Law.sz1, Law.sz2, L3.rAdd3, L3.rLen3, L3.rLt3, L3.rIdx3, Law.at30, Law.at31, Law.at32, Law.at20, Law.at21, L3.isNone, Law.eqD_int, Law.md0, Law.md1, Law.md2, Law.md3, Law.md4, Law.md5, Law.md6, Law.md7, Law.md8, Law.md9, Law.md10, Law.md11, Law.md12, Law.md13, Law.md14, Law.md15, Law.md16, Law.md17, Law.md18, Law.md19, Law.md20, Law.md21, Law.md22, Law.md23, Law.md24, Law.md25, Law.md26, Law.md27, Law.md28, e1, e2, e4, l1, l2, l3, h3, mn, mx, mm]
  · have h2 : ¬ (x * one ≤ number) := fun z => h (k4.mp z)
    have h3 : ¬ (x' * other ≤ number) := fun z => h (l4.mp z)
    rw [if_neg h, if_neg h]
    constructor
    · rw [u9]; unfold fn_two_fewest
      simp [L3.evSs, L3.evS.eq_1, L3.evS.eq_2, L3.evS.eq_3, L3.evS.eq_4, L3.evS.eq_5, L3.evS.eq_6, L3.evS.eq_9, L3.evS.eq_10, L3.evS.eq_11, L3.evS.eq_12, L3.evS.eq_13, L3.evS.eq_14, L3.evE.eq_1, L3.evE.eq_2, L3.evE.eq_3, L3.evE.eq_4, L3.evE.eq_5, L3.evE.eq_6, L3.evE.eq_7, L3.evE.eq_8, L3.evE.eq_9, L3.evE.eq_10, L3.evE.eq_11, L3.evE.eq_12, L3.evE.eq_13, L3.evE.eq_14, L3.evE.eq_15, L3.evE.eq_16, L3.evE.eq_18, L3.evE.eq_19, L3.evE.eq_20, L3.evE.eq_21, L3.evA, L3.evP, Law.evS_whlR, Law.evS_frR, Law.evE_lcR, Law.frR_nil, Law.frR_cons, Law.lcR_nil, Law.lcR_cons, L3.argOf, L3.Rs.bind, L3.opFin, L3.avDs, L3.avD, L3.vDs, L3.Op.keeps, L3.Op.run, L3.i1, L3.i2, L3.a1, L3.a2, L3.l1, L3.gd, L3.oB, L3.oI, L3.toB, L3.toI, L3.rdVar, L3.mvVar, L3.stVar, L3.stR, L3.stTg, L3.stVars, L3.stVarsO, L3.passA, L3.backA, L3.doCall, L3.cellOf, L3.start3, Law.outs1, Law.outs2, Law.outs3, Law.outs4, L3.resOf, L3.runFn, L3.keepB, L3.Ow.isB, L3.Ow.isOwn, L3.isTys, L3.isTy, L3.itFin, L3.ItK.run, L3.kRng1, L3.kRng2, L3.kSeq, L3.seqD, L3.seqD2, L3.kEnm, L3.enmD, Law.fit_of, Law.fit3, L3.noEr, L3.slFin, L3.slice3, L3.shE, L3.Tg.slots, L3.wipeE, L3.restE, L3.asB, Law.sz0, Law.sz1, Law.sz2, L3.rAdd3, L3.rLen3, L3.rLt3, L3.rIdx3, Law.at30, Law.at31, Law.at32, Law.at20, Law.at21, L3.isNone, Law.eqD_int, Law.md0, Law.md1, Law.md2, Law.md3, Law.md4, Law.md5, Law.md6, Law.md7, Law.md8, Law.md9, Law.md10, Law.md11, Law.md12, Law.md13, Law.md14, Law.md15, Law.md16, Law.md17, Law.md18, Law.md19, Law.md20, Law.md21, Law.md22, Law.md23, Law.md24, Law.md25, Law.md26, Law.md27, Law.md28, e1, e2, e3, k1, h2, mn, mx, mm]
    · rw [u10]; unfold fn_two_most
      simp [L3.evSs, L3.evS.eq_1, L3.evS.eq_2, L3.evS.eq_3, L3.evS.eq_4, L3.evS.eq_5, L3.evS.eq_6, L3.evS.eq_9, L3.evS.eq_10, L3.evS.eq_11, L3.evS.eq_12, L3.evS.eq_13, L3.evS.eq_14, L3.evE.eq_1, L3.evE.eq_2, L3.evE.eq_3, L3.evE.eq_4, L3.evE.eq_5, L3.evE.eq_6, L3.evE.eq_7, L3.evE.eq_8, L3.evE.eq_9, L3.evE.eq_10, L3.evE.eq_11, L3.evE.eq_12, L3.evE.eq_13, L3.evE.eq_14, L3.evE.eq_15, L3.evE.eq_16, L3.evE.eq_18, L3.evE.eq_19, L3.evE.eq_20, L3.evE.eq_21, L3.evA, L3.evP, Law.evS_whlR, Law.evS_frR, Law.evE_lcR, Law.frR_nil, Law.frR_cons, Law.lcR_nil, Law.lcR_cons, L3.argOf, L3.Rs.bind, L3.opFin, L3.avDs, L3.avD, L3.vDs, L3.Op.keeps, L3.Op.run, L3.i1, L3.i2, L3.a1, L3.a2, L3.l1, L3.gd, L3.oB, L3.oI, L3.toB, L3.toI, L3.rdVar, L3.mvVar, L3.stVar, L3.stR, L3.stTg, L3.stVars, L3.stVarsO, L3.passA, L3.backA, L3.doCall, L3.cellOf, L3.start3, Law.outs1, Law.outs2, Law.outs3, Law.outs4, L3.resOf, L3.runFn, L3.keepB, L3.Ow.isB, L3.Ow.isOwn, L3.isTys, L3.isTy, L3.itFin, L3.ItK.run, L3.kRng1, L3.kRng2, L3.kSeq, L3.seqD, L3.seqD2, L3.kEnm, L3.enmD, Law.fit_of, Law.fit3, L3.noEr, L3.slFin, L3.slice3, L3.shE, L3.Tg.slots, L3.wipeE, L3.restE, L3.asB, Law.sz0, Law.sz1, Law.sz2, L3.rAdd3, L3.rLen3, L3.rLt3, L3.rIdx3, Law.at30, Law.at31, Law.at32, Law.at20, Law.at21, L3.isNone, Law.eqD_int, Law.md0, Law.md1, Law.md2, Law.md3, Law.md4, Law.md5, Law.md6, Law.md7, Law.md8, Law.md9, Law.md10, Law.md11, Law.md12, Law.md13, Law.md14, Law.md15, Law.md16, Law.md17, Law.md18, Law.md19, Law.md20, Law.md21, Law.md22, Law.md23, Law.md24, Law.md25, Law.md26, Law.md27, Law.md28, e1, e2, e4, l1, h3, mn, mx, mm]
end Law

namespace Law
open PySem PySem.Spec PyProof.Rows L2 L3
theorem high_core (n : Nat) {one other number x y : Int} (q : Qu one other number) (s : Spl one other number x y) (hlt : other < one) :
    callD tb WN (n + 3) 9 [(false, .int one), (false, .int other), (false, .int number)] = .ok (intD y (mnI (en1 x y) (en2 one other x y))) false [none, none, none] ∧
    callD tb WN (n + 3) 10 [(false, .int one), (false, .int other), (false, .int number)] = .ok (intD y (mxI (en1 x y) (en2 one other x y))) false [none, none, none] := by
  have e1 := c_check_two n q.c1 q.c2 q.co
  have e2 := c_check_number n q.nm
  have s' := s.swap q.p1
  have q' := q.swap
  have e3 := c_fst n q s
  have e4 := c_fst n q' s'
  have k1 := mul_xo q s
  have k2 := div_o q (number - x * one)
  have k3 := s.div q.p2
  have k4 := s.nn q.p2
  have l1 := mul_xo q' s'
  have l2 := div_o q' (number - y % one * other)
  have l3 := s'.div q'.p2
  have l4 := (s'.nn q'.p2).trans (s.sw0 q.p1)
  have l5 : y % one + (x + y / one * other) = en2 one other x y := en2_eq
  have mn : (if other < one then other else one) = other := if_pos hlt
  have mx : (if one < other then other else one) = one := if_neg (by omega)
  unfold intD
  generalize y % one = x' at *
  generalize x + y / one * other = y' at *
  by_cases h : 0 ≤ y
  · have h2 := k4.mpr h
    have h3 := l4.mpr h
    have hh := (ends_le s q.p1 h).2 (Int.le_of_lt hlt)
    have w1 : mnI (en1 x y) (en2 one other x y) = x' + y' := by rw [l5]; unfold mnI; split <;> omega
    have w2 : mxI (en1 x y) (en2 one other x y) = x + y := by unfold mxI; rw [if_pos hh]; rfl
    rw [if_pos h, if_pos h, w1, w2]
    constructor
    · rw [u9]; unfold fn_two_fewest
      simp [L3.evSs, L3.evS.eq_1, L3.evS.eq_2, L3.evS.eq_3, L3.evS.eq_4, L3.evS.eq_5, L3.evS.eq_6, L3.evS.eq_9, L3.evS.eq_10, L3.evS.eq_11, L3.evS.eq_12, L3.evS.eq_13, L3.evS.eq_14, L3.evE.eq_1, L3.evE.eq_2, L3.evE.eq_3, L3.evE.eq_4, L3.evE.eq_5, L3.evE.eq_6, L3.evE.eq_7, L3.evE.eq_8, L3.evE.eq_9, L3.evE.eq_10, L3.evE.eq_11, L3.evE.eq_12, L3.evE.eq_13, L3.evE.eq_14, L3.evE.eq_15, L3.evE.eq_16, L3.evE.eq_18, L3.evE.eq_19, L3.evE.eq_20, L3.evE.eq_21, L3.evA, L3.evP, Law.evS_whlR, Law.evS_frR, Law.evE_lcR, Law.frR_nil, Law.frR_cons, Law.lcR_nil, Law.lcR_cons, L3.argOf, L3.Rs.bind, L3.opFin, L3.avDs, L3.avD, L3.vDs, L3.Op.keeps, L3.Op.run, L3.i1, L3.i2, L3.a1, L3.a2, L3.l1, L3.gd, L3.oB, L3.oI, L3.toB, L3.toI, L3.rdVar, L3.mvVar, L3.stVar, L3.stR, L3.stTg, L3.stVars, L3.stVarsO, L3.passA, L3.backA, L3.doCall, L3.cellOf, L3.start3, Law.outs1, Law.outs2, Law.outs3, Law.outs4, L3.resOf, L3.runFn, L3.keepB, L3.Ow.isB, L3.Ow.isOwn, L3.isTys, L3.isTy, L3.itFin, L3.ItK.run, L3.kRng1, L3.kRng2, L3.kSeq, L3.seqD, L3.seqD2, L3.kEnm, L3.enmD, Law.fit_of, Law.fit3, L3.noEr, L3.slFin, L3.slice3, L3.shE, L3.Tg.slots, L3.wipeE, L3.restE, L3.asB, Law.sz0, Law.sz1, Law.sz2, L3.rAdd3, L3.rLen3, L3.rLt3, L3.rIdx3, Law.at30, Law.at31, Law.at32, Law.at20, Law.at21, L3.isNone, Law.eqD_int, Law.md0, Law.md1, Law.md2, Law.md3, Law.md4, Law.md5, Law.md6, Law.md7, Law.md8, Law.md9, Law.md10, Law.md11, Law.md12, Law.md13, Law.md14, Law.md15, Law.md16, Law.md17, Law.md18, Law.md19, Law.md20, Law.md21, Law.md22, Law.md23, Law.md24, Law.md25, Law.md26, Law.md27, Law.md28, e1, e2, e4, l1, l2, l3, h3, mn, mx]
    · rw [u10]; unfold fn_two_most
      simp [L3.evSs, L3.evS.eq_1, L3.evS.eq_2, L3.evS.eq_3, L3.evS.eq_4, L3.evS.eq_5, L3.evS.eq_6, L3.evS.eq_9, L3.evS.eq_10, L3.evS.eq_11, L3.evS.eq_12, L3.evS.eq_13, L3.evS.eq_14, L3.evE.eq_1, L3.evE.eq_2, L3.evE.eq_3, L3.evE.eq_4, L3.evE.eq_5, L3.evE.eq_6, L3.evE.eq_7, L3.evE.eq_8, L3.evE.eq_9, L3.evE.eq_10, L3.evE.eq_11, L3.evE.eq_12, L3.evE.eq_13, L3.evE.eq_14, L3.evE.eq_15, L3.evE.eq_16, L3.evE.eq_18, L3.evE.eq_19, L3.evE.eq_20, L3.evE.eq_21, L3.evA, L3.evP, Law.evS_whlR, Law.evS_frR, Law.evE_lcR, Law.frR_nil, Law.frR_cons, Law.lcR_nil, Law.lcR_cons, L3.argOf, L3.Rs.bind, L3.opFin, L3.avDs, L3.avD, L3.vDs, L3.Op.keeps, L3.Op.run, L3.i1, L3.i2, L3.a1, L3.a2, L3.l1, L3.gd, L3.oB, L3.oI, L3.toB, L3.toI, L3.rdVar, L3.mvVar, L3.stVar, L3.stR, L3.stTg, L3.stVars, L3.stVarsO, L3.passA, L3.backA, L3.doCall, L3.cellOf, L3.start3, Law.outs1, Law.outs2, Law.outs3, Law.outs4, L3.resOf, L3.runFn, L3.keepB, L3.Ow.isB, L3.Ow.isOwn, L3.isTys, L3.isTy, L3.itFin, L3.ItK.run, L3.kRng1, L3.kRng2, L3.kSeq, L3.seqD, L3.seqD2, L3.kEnm, L3.enmD, Law.fit_of, Law.fit3, L3.noEr, L3.slFin, L3.slice3, L3.shE, L3.Tg.slots, L3.wipeE, L3.restE, L3.asB, Law.sz0, Law.sz1, Law.sz2, L3.rAdd3, L3.rLen3, L3.rLt3, L3.rIdx3, Law.at30, Law.at31, Law.at32, Law.at20, Law.at21, L3.isNone, Law.eqD_int, Law.md0, Law.md1, Law.md2, Law.md3, Law.md4, Law.md5, Law.md6, Law.md7, Law.md8, Law.md9, Law.md10, Law.md11, Law.md12, Law.md13, Law.md14, Law.md15, Law.md16, Law.md17, Law.md18, Law.md19, Law.md20, Law.md21, Law.md22, Law.md23, Law.md24, Law.md25, Law.md26, Law.md27, Law.md28, e1, e2, e3, k1, k2, k3, h2, mn, mx]
  · have h2 : ¬ (x * one ≤ number) := fun z => h (k4.mp z)
    have h3 : ¬ (x' * other ≤ number) := fun z => h (l4.mp z)
    rw [if_neg h, if_neg h]
    constructor
    · rw [u9]; unfold fn_two_fewest
      simp [L3.evSs, L3.evS.eq_1, L3.evS.eq_2, L3.evS.eq_3, L3.evS.eq_4, L3.evS.eq_5, L3.evS.eq_6, L3.evS.eq_9, L3.evS.eq_10, L3.evS.eq_11, L3.evS.eq_12, L3.evS.eq_13, L3.evS.eq_14, L3.evE.eq_1, L3.evE.eq_2, L3.evE.eq_3, L3.evE.eq_4, L3.evE.eq_5, L3.evE.eq_6, L3.evE.eq_7, L3.evE.eq_8, L3.evE.eq_9, L3.evE.eq_10, L3.evE.eq_11, L3.evE.eq_12, L3.evE.eq_13, L3.evE.eq_14, L3.evE.eq_15, L3.evE.eq_16, L3.evE.eq_18, L3.evE.eq_19, L3.evE.eq_20, L3.evE.eq_21, L3.evA, L3.evP, Law.evS_whlR, Law.evS_frR, Law.evE_lcR, Law.frR_nil, Law.frR_cons, Law.lcR_nil, Law.lcR_cons, L3.argOf, L3.Rs.bind, L3.opFin, L3.avDs, L3.avD, L3.vDs, L3.Op.keeps, L3.Op.run, L3.i1, L3.i2, L3.a1, L3.a2, L3.l1, L3.gd, L3.oB, L3.oI, L3.toB, L3.toI, L3.rdVar, L3.mvVar, L3.stVar, L3.stR, L3.stTg, L3.stVars, L3.stVarsO, L3.passA, L3.backA, L3.doCall, L3.cellOf, L3.start3, Law.outs1, Law.outs2, Law.outs3, Law.outs4, L3.resOf, L3.runFn, L3.keepB, L3.Ow.isB, L3.Ow.isOwn, L3.isTys, L3.isTy, L3.itFin, L3.ItK.run, L3.kRng1, L3.kRng2, L3.kSeq, L3.seqD, L3.seqD2, L3.kEnm, L3.enmD, Law.fit_of, Law.fit3, L3.noEr, L3.slFin, L3.slice3, L3.shE, L3.Tg.slots, L3.wipeE, L3.restE, L3.asB, Law.sz0, Law.sz1, Law.sz2, L3.rAdd3, L3.rLen3, L3.rLt3, L3.rIdx3, Law.at30, Law.at31, Law.at32, Law.at20, Law.at21, L3.isNone, Law.eqD_int, Law.md0, Law.md1, Law.md2, Law.md3, Law.md4, Law.md5, Law.md6, Law.md7, Law.md8, Law.md9, Law.md10, Law.md11, Law.md12, Law.md13, Law.md14, Law.md15, Law.md16, Law.md17, Law.md18, Law.md19, Law.md20, Law.md21, Law.md22, Law.md23, Law.md24, Law.md25, Law.md26, Law.md27, Law.md28, e1, e2, e4, l1, h3, mn, mx]
    · rw [u10]; unfold fn_two_most
      simp [L3.evSs, L3.evS.eq_1, L3.evS.eq_2, L3.evS.eq_3, L3.evS.eq_4, L3.evS.eq_5, L3.evS.eq_6, L3.evS.eq_9, L3.evS.eq_10, L3.evS.eq_11, L3.evS.eq_12, L3.evS.eq_13, L3.evS.eq_14, L3.evE.eq_1, L3.evE.eq_2, L3.evE.eq_3, L3.evE.eq_4, L3.evE.eq_5, L3.evE.eq_6, L3.evE.eq_7, L3.evE.eq_8, L3.evE.eq_9, L3.evE.eq_10, L3.evE.eq_11, L3.evE.eq_12, L3.evE.eq_13, L3.evE.eq_14, L3.evE.eq_15, L3.evE.eq_16, L3.evE.eq_18, L3.evE.eq_19, L3.evE.eq_20, L3.evE.eq_21, L3.evA, L3.evP, Law.evS_whlR, Law.evS_frR, Law.evE_lcR, Law.frR_nil, Law.frR_cons, Law.lcR_nil, Law.lcR_cons, L3.argOf, L3.Rs.bind, L3.opFin, L3.avDs, L3.avD, L3.vDs, L3.Op.keeps, L3.Op.run, L3.i1, L3.i2, L3.a1, L3.a2, L3.l1, L3.gd, L3.oB, L3.oI, L3.toB, L3.toI, L3.rdVar, L3.mvVar, L3.stVar, L3.stR, L3.stTg, L3.stVars, L3.stVarsO, L3.passA, L3.backA, L3.doCall, L3.cellOf, L3.start3, Law.outs1, Law.outs2, Law.outs3, Law.outs4, L3.resOf, L3.runFn, L3.keepB, L3.Ow.isB, L3.Ow.isOwn, L3.isTys, L3.isTy, L3.itFin, L3.ItK.run, L3.kRng1, L3.kRng2, L3.kSeq, L3.seqD, L3.seqD2, L3.kEnm, L3.enmD, Law.fit_of, Law.fit3, L3.noEr, L3.slFin, L3.slice3, L3.shE, L3.Tg.slots, L3.wipeE, L3.restE, L3.asB, Law.sz0, Law.sz1, Law.sz2, L3.rAdd3, L3.rLen3, L3.rLt3, L3.rIdx3, Law.at30, Law.at31, Law.at32, Law.at20, Law.at21, L3.isNone, Law.eqD_int, Law.md0, Law.md1, Law.md2, Law.md3, Law.md4, Law.md5, Law.md6, Law.md7, Law.md8, Law.md9, Law.md10, Law.md11, Law.md12, Law.md13, Law.md14, Law.md15, Law.md16, Law.md17, Law.md18, Law.md19, Law.md20, Law.md21, Law.md22, Law.md23, Law.md24, Law.md25, Law.md26, Law.md27, Law.md28, e1, e2, e3, k1, h2, mn, mx]
theorem c_few_most (n : Nat) {one other number x y : Int} (q : Qu one other number) (s : Spl one other number x y) :
    callD tb WN (n + 3) 9 [(false, .int one), (false, .int other), (false, .int number)] = .ok (intD y (mnI (en1 x y) (en2 one other x y))) false [none, none, none] ∧
    callD tb WN (n + 3) 10 [(false, .int one), (false, .int other), (false, .int number)] = .ok (intD y (mxI (en1 x y) (en2 one other x y))) false [none, none, none] := by
  by_cases h : one ≤ other
  · exact low_core n q s h
  · exact high_core n q s (by omega)
/-- what is due -/
def waysI (one y : Int) : Int := if 0 ≤ y then y / one + 1 else 0
def dueL (one other x y : Int) : List D := [payD x y, .int (waysI one y), intD y (mnI (en1 x y) (en2 one other x y)), intD y (mxI (en1 x y) (en2 one other x y)), .tup [.int x, .int y]]
theorem c_told (n : Nat) {one other number x y : Int} (q : Qu one other number) (s : Spl one other number x y) : callD tb WN (n + 4) 22 [(false, .int one), (false, .int other), (false, .int number)] = .ok (.lst (dueL one other x y)) true [none, none, none] := by
  rw [u22]; unfold fn__law_told
  have e1 := c_pay n q s
  have e2 : callD tb WN (n + 3) 8 _ = .ok (.int (waysI one y)) _ _ := c_ways n q s
  have e3 := (c_few_most n q s).1
  have e4 := (c_few_most n q s).2
  have e5 := c_signed n q s
  unfold dueL
  generalize payD x y = d1 at *
  generalize waysI one y = d2 at *
  generalize intD y (mnI (en1 x y) (en2 one other x y)) = d3 at *
  generalize intD y (mxI (en1 x y) (en2 one other x y)) = d4 at *
  simp [L3.evSs, L3.evS.eq_1, L3.evS.eq_2, L3.evS.eq_3, L3.evS.eq_4, L3.evS.eq_5, L3.evS.eq_6, L3.evS.eq_9, L3.evS.eq_10, L3.evS.eq_11, L3.evS.eq_12, L3.evS.eq_13, L3.evS.eq_14, L3.evE.eq_1, L3.evE.eq_2, L3.evE.eq_3, L3.evE.eq_4, L3.evE.eq_5, L3.evE.eq_6, L3.evE.eq_7, L3.evE.eq_8, L3.evE.eq_9, L3.evE.eq_10, L3.evE.eq_11, L3.evE.eq_12, L3.evE.eq_13, L3.evE.eq_14, L3.evE.eq_15, L3.evE.eq_16, L3.evE.eq_18, L3.evE.eq_19, L3.evE.eq_20, L3.evE.eq_21, L3.evA, L3.evP, Law.evS_whlR, Law.evS_frR, Law.evE_lcR, Law.frR_nil, Law.frR_cons, Law.lcR_nil, Law.lcR_cons, L3.argOf, L3.Rs.bind, L3.opFin, L3.avDs, L3.avD, L3.vDs, L3.Op.keeps, L3.Op.run, L3.i1, L3.i2, L3.a1, L3.a2, L3.l1, L3.gd, L3.oB, L3.oI, L3.toB, L3.toI, L3.rdVar, L3.mvVar, L3.stVar, L3.stR, L3.stTg, L3.stVars, L3.stVarsO, L3.passA, L3.backA, L3.doCall, L3.cellOf, L3.start3, Law.outs1, Law.outs2, Law.outs3, Law.outs4, L3.resOf, L3.runFn, L3.keepB, L3.Ow.isB, L3.Ow.isOwn, L3.isTys, L3.isTy, L3.itFin, L3.ItK.run, L3.kRng1, L3.kRng2, L3.kSeq, L3.seqD, L3.seqD2, L3.kEnm, L3.enmD, Law.fit_of, Law.fit3, L3.noEr, L3.slFin, L3.slice3, L3.shE, L3.Tg.slots, L3.wipeE, L3.restE, L3.asB, Law.sz0, Law.sz1, Law.sz2, L3.rAdd3, L3.rLen3, L3.rLt3, L3.rIdx3, Law.at30, Law.at31, Law.at32, Law.at20, Law.at21, L3.isNone, Law.eqD_int, Law.md0, Law.md1, Law.md2, Law.md3, Law.md4, Law.md5, Law.md6, Law.md7, Law.md8, Law.md9, Law.md10, Law.md11, Law.md12, Law.md13, Law.md14, Law.md15, Law.md16, Law.md17, Law.md18, Law.md19, Law.md20, Law.md21, Law.md22, Law.md23, Law.md24, Law.md25, Law.md26, Law.md27, Law.md28, e1, e2, e3, e4, e5]
theorem Spl.ylt {one other number x y : Int} (s : Spl one other number x y) (q : Qu one other number) : y.natAbs < 2 ^ 1000 := by
  have h1 : y.natAbs ≤ (number - x * one).natAbs := by
    rw [s.e, Int.natAbs_mul]
    exact Nat.le_mul_of_pos_right _ (by have := q.p2; omega)
  have h2 : (number - x * one).natAbs ≤ number.natAbs + (x * one).natAbs := Int.natAbs_sub_le _ _
  have h3 : (x * one).natAbs < 2 ^ 666 := by
    rw [Int.natAbs_mul, show (666 : Nat) = 333 + 333 from rfl, Nat.pow_add]
    exact Nat.mul_lt_mul'' (s.xlt q.c2) q.c1.nlt
  have h4 := q.nm.lt
  have h5 : 2 ^ 997 + 2 ^ 666 < 2 ^ 1000 := by decide
  omega
theorem c_due (n : Nat) {one other number x y : Int} (q : Qu one other number) (s : Spl one other number x y) : callD tb WN (n + 3) 21 [(false, .int one), (false, .int other), (false, .int number)] = .ok (.lst (dueL one other x y)) true [none, none, none] := by
  rw [u21]; unfold fn__law_due
  have e1 := c_spl n q s
  unfold dueL payD waysI intD
  by_cases h : 0 ≤ y
  · have h2 : ¬ y < 0 := by omega
    have d1 : divOk y one = true := divB 333 (by decide) q.p1 q.c1.nlt
    have hm : (y / one).natAbs < 2 ^ 1000 := Nat.lt_of_le_of_lt (by
      have := Int.ediv_le_self one h
      have h3 := Int.ediv_nonneg h (show 0 ≤ one by have := q.p1; omega)
      omega) (s.ylt q)
    have m1 : mulOk (y / one) other = true := mulB 1000 (by decide) (by decide) hm (up_lt 1000 (by decide) q.c2.nlt)
    have m2 : mulOk (y / one) one = true := mulB 1000 (by decide) (by decide) hm (up_lt 1000 (by decide) q.c1.nlt)
    rw [if_pos h, if_pos h, if_pos h, if_pos h]
    have f1 : minL [x + y, x + y / one * other + y - y / one * one] = some (mnI (en1 x y) (en2 one other x y)) := rfl
    have f2 : maxL [x + y, x + y / one * other + y - y / one * one] = some (mxI (en1 x y) (en2 one other x y)) := rfl
    generalize mnI (en1 x y) (en2 one other x y) = g1 at *
    generalize mxI (en1 x y) (en2 one other x y) = g2 at *
    simp [L3.evSs, L3.evS.eq_1, L3.evS.eq_2, L3.evS.eq_3, L3.evS.eq_4, L3.evS.eq_5, L3.evS.eq_6, L3.evS.eq_9, L3.evS.eq_10, L3.evS.eq_11, L3.evS.eq_12, L3.evS.eq_13, L3.evS.eq_14, L3.evE.eq_1, L3.evE.eq_2, L3.evE.eq_3, L3.evE.eq_4, L3.evE.eq_5, L3.evE.eq_6, L3.evE.eq_7, L3.evE.eq_8, L3.evE.eq_9, L3.evE.eq_10, L3.evE.eq_11, L3.evE.eq_12, L3.evE.eq_13, L3.evE.eq_14, L3.evE.eq_15, L3.evE.eq_16, L3.evE.eq_18, L3.evE.eq_19, L3.evE.eq_20, L3.evE.eq_21, L3.evA, L3.evP, Law.evS_whlR, Law.evS_frR, Law.evE_lcR, L3.argOf, L3.Rs.bind, L3.opFin, L3.avDs, L3.avD, L3.vDs, L3.Op.keeps, L3.Op.run, L3.i1, L3.i2, L3.a1, L3.a2, L3.l1, L3.gd, L3.oB, L3.oI, L3.toB, L3.toI, L3.rdVar, L3.mvVar, L3.stVar, L3.stR, L3.stTg, L3.stVars, L3.stVarsO, L3.passA, L3.backA, L3.doCall, L3.cellOf, L3.start3, Law.outs1, Law.outs2, Law.outs3, Law.outs4, L3.resOf, L3.runFn, L3.keepB, L3.Ow.isB, L3.Ow.isOwn, L3.isTys, L3.isTy, L3.itFin, L3.ItK.run, L3.kRng1, L3.kRng2, L3.kSeq, L3.seqD, L3.seqD2, L3.kEnm, L3.enmD, Law.fit_of, Law.fit3, L3.noEr, L3.slFin, L3.slice3, L3.shE, L3.Tg.slots, L3.wipeE, L3.restE, L3.asB, Law.sz0, Law.sz1, Law.sz2, L3.rAdd3, L3.rLen3, L3.rLt3, L3.rIdx3, Law.at30, Law.at31, Law.at32, Law.at20, Law.at21, L3.isNone, Law.eqD_int, Law.md0, Law.md1, Law.md2, Law.md3, Law.md4, Law.md5, Law.md6, Law.md7, Law.md8, Law.md9, Law.md10, Law.md11, Law.md12, Law.md13, Law.md14, Law.md15, Law.md16, Law.md17, Law.md18, Law.md19, Law.md20, Law.md21, Law.md22, Law.md23, Law.md24, Law.md25, Law.md26, Law.md27, Law.md28, e1, h2, d1, m1, m2, f1, f2, asI]
  · have h2 : y < 0 := by omega
    rw [if_neg h, if_neg h, if_neg h, if_neg h]
    simp [L3.evSs, L3.evS.eq_1, L3.evS.eq_2, L3.evS.eq_3, L3.evS.eq_4, L3.evS.eq_5, L3.evS.eq_6, L3.evS.eq_9, L3.evS.eq_10, L3.evS.eq_11, L3.evS.eq_12, L3.evS.eq_13, L3.evS.eq_14, L3.evE.eq_1, L3.evE.eq_2, L3.evE.eq_3, L3.evE.eq_4, L3.evE.eq_5, L3.evE.eq_6, L3.evE.eq_7, L3.evE.eq_8, L3.evE.eq_9, L3.evE.eq_10, L3.evE.eq_11, L3.evE.eq_12, L3.evE.eq_13, L3.evE.eq_14, L3.evE.eq_15, L3.evE.eq_16, L3.evE.eq_18, L3.evE.eq_19, L3.evE.eq_20, L3.evE.eq_21, L3.evA, L3.evP, Law.evS_whlR, Law.evS_frR, Law.evE_lcR, Law.frR_nil, Law.frR_cons, Law.lcR_nil, Law.lcR_cons, L3.argOf, L3.Rs.bind, L3.opFin, L3.avDs, L3.avD, L3.vDs, L3.Op.keeps, L3.Op.run, L3.i1, L3.i2, L3.a1, L3.a2, L3.l1, L3.gd, L3.oB, L3.oI, L3.toB, L3.toI, L3.rdVar, L3.mvVar, L3.stVar, L3.stR, L3.stTg, L3.stVars, L3.stVarsO, L3.passA, L3.backA, L3.doCall, L3.cellOf, L3.start3, Law.outs1, Law.outs2, Law.outs3, Law.outs4, L3.resOf, L3.runFn, L3.keepB, L3.Ow.isB, L3.Ow.isOwn, L3.isTys, L3.isTy, L3.itFin, L3.ItK.run, L3.kRng1, L3.kRng2, L3.kSeq, L3.seqD, L3.seqD2, L3.kEnm, L3.enmD, Law.fit_of, Law.fit3, L3.noEr, L3.slFin, L3.slice3, L3.shE, L3.Tg.slots, L3.wipeE, L3.restE, L3.asB, Law.sz0, Law.sz1, Law.sz2, L3.rAdd3, L3.rLen3, L3.rLt3, L3.rIdx3, Law.at30, Law.at31, Law.at32, Law.at20, Law.at21, L3.isNone, Law.eqD_int, Law.md0, Law.md1, Law.md2, Law.md3, Law.md4, Law.md5, Law.md6, Law.md7, Law.md8, Law.md9, Law.md10, Law.md11, Law.md12, Law.md13, Law.md14, Law.md15, Law.md16, Law.md17, Law.md18, Law.md19, Law.md20, Law.md21, Law.md22, Law.md23, Law.md24, Law.md25, Law.md26, Law.md27, Law.md28, e1, h2]
end Law

namespace Law
open PySem PySem.Spec PyProof.Rows L2 L3
mutual
/-- numbers, flags, None, in tuples and lists -/
def pl : D → Bool
  | .non => true | .bl _ => true | .int _ => true
  | .tup xs => pls xs && decide (xs.length ≤ 1000) | .lst xs => pls xs && decide (xs.length ≤ 1000)
  | _ => false
def pls : List D → Bool
  | [] => true
  | x :: xs => pl x && pls xs
end
mutual
def dp : D → Nat
  | .tup xs => dps xs + 1 | .lst xs => dps xs + 1
  | _ => 0
def dps : List D → Nat
  | [] => 0
  | x :: xs => max (dp x) (dps xs)
end
theorem pls_mem : ∀ {xs : List D}, pls xs = true → ∀ x ∈ xs, pl x = true
  | [], _, _, h => by cases h
  | y :: ys, h, x, hx => by
    unfold pls at h
    obtain ⟨h1, h2⟩ := Bool.and_eq_true_iff.mp h
    rcases List.mem_cons.mp hx with rfl | hx
    · exact h1
    · exact pls_mem h2 x hx
theorem dps_mem : ∀ {xs : List D} (x : D), x ∈ xs → dp x ≤ dps xs
  | [], _, h => by cases h
  | y :: ys, x, hx => by
    unfold dps
    rcases List.mem_cons.mp hx with rfl | hx
    · exact Nat.le_max_left _ _
    · exact Nat.le_trans (dps_mem x hx) (Nat.le_max_right _ _)
def both (x : D) : D := .tup [x, x]
theorem zip_self : ∀ xs : List D, zipD xs xs = xs.map both
  | [] => rfl
  | x :: xs => by show D.tup [x, x] :: zipD xs xs = _; rw [zip_self xs]; rfl
theorem asB_true : ∀ xs : List D, asB (xs.map fun _ => D.bl true) = some (xs.map fun _ => true)
  | [] => rfl
  | x :: xs => by
    show (match asB (xs.map fun _ => D.bl true) with | some r => some (true :: r) | none => none) = _
    rw [asB_true xs]; rfl
theorem all_true (xs : List D) : (xs.map fun _ => true).all id = true := by simp
theorem eqD_bl {a b : Bool} : eqD (.bl a) (.bl b) = some (a == b) := by cases a <;> cases b <;> kernel_rfl
theorem is_items (n : Nat) (a b : D) (xs : List D) (hl : xs.length ≤ 1000) (h : ∀ x ∈ xs, callD tb WN n 15 [(false, x), (false, x)] = .ok (.bl true) false [none, none]) :
    lcR (callD tb WN n) (mdOf tb) [2, 3] (.tp [2, 3]) L15_0c L15_0 (zipD xs xs) [] [some (.sh, a), some (.sh, b), none, none] = .ok (xs.map fun _ => .bl true) [some (.sh, a), some (.sh, b), none, none] := by
  rw [zip_self]
  have := lcR_map (C := callD tb WN n) (md := mdOf tb) (vs := [2, 3]) (tg := .tp [2, 3]) (c := L15_0c) (e := L15_0) (g := fun _ => D.bl true) (en0 := [some (.sh, a), some (.sh, b), none, none]) (xs.map both) [] (by
    intro d hd
    obtain ⟨x, hx, rfl⟩ := List.mem_map.mp hd
    refine ⟨[some (.sh, a), some (.sh, b), some (.sh, x), some (.sh, x)], rfl, ?_, ⟨false, ?_⟩, rfl⟩
    · simp [L3.evSs, L3.evS.eq_1, L3.evS.eq_2, L3.evS.eq_3, L3.evS.eq_4, L3.evS.eq_5, L3.evS.eq_6, L3.evS.eq_9, L3.evS.eq_10, L3.evS.eq_11, L3.evS.eq_12, L3.evS.eq_13, L3.evS.eq_14, L3.evE.eq_1, L3.evE.eq_2, L3.evE.eq_3, L3.evE.eq_4, L3.evE.eq_5, L3.evE.eq_6, L3.evE.eq_7, L3.evE.eq_8, L3.evE.eq_9, L3.evE.eq_10, L3.evE.eq_11, L3.evE.eq_12, L3.evE.eq_13, L3.evE.eq_14, L3.evE.eq_15, L3.evE.eq_16, L3.evE.eq_18, L3.evE.eq_19, L3.evE.eq_20, L3.evE.eq_21, L3.evA, L3.evP, Law.evS_whlR, Law.evS_frR, Law.evE_lcR, Law.frR_nil, Law.frR_cons, Law.lcR_nil, Law.lcR_cons, L3.argOf, L3.Rs.bind, L3.opFin, L3.avDs, L3.avD, L3.vDs, L3.Op.keeps, L3.Op.run, L3.i1, L3.i2, L3.a1, L3.a2, L3.l1, L3.gd, L3.oB, L3.oI, L3.toB, L3.toI, L3.rdVar, L3.mvVar, L3.stVar, L3.stR, L3.stTg, L3.stVars, L3.stVarsO, L3.passA, L3.backA, L3.doCall, L3.cellOf, L3.start3, Law.outs1, Law.outs2, Law.outs3, Law.outs4, L3.resOf, L3.runFn, L3.keepB, L3.Ow.isB, L3.Ow.isOwn, L3.isTys, L3.isTy, L3.itFin, L3.ItK.run, L3.kRng1, L3.kRng2, L3.kSeq, L3.seqD, L3.seqD2, L3.kEnm, L3.enmD, Law.fit_of, Law.fit3, L3.noEr, L3.slFin, L3.slice3, L3.shE, L3.Tg.slots, L3.wipeE, L3.restE, L3.asB, Law.sz0, Law.sz1, Law.sz2, L3.rAdd3, L3.rLen3, L3.rLt3, L3.rIdx3, Law.at30, Law.at31, Law.at32, Law.at20, Law.at21, L3.isNone, Law.eqD_int, Law.md0, Law.md1, Law.md2, Law.md3, Law.md4, Law.md5, Law.md6, Law.md7, Law.md8, Law.md9, Law.md10, Law.md11, Law.md12, Law.md13, Law.md14, Law.md15, Law.md16, Law.md17, Law.md18, Law.md19, Law.md20, Law.md21, Law.md22, Law.md23, Law.md24, Law.md25, Law.md26, Law.md27, Law.md28, L15_0c]
    · simp [L3.evSs, L3.evS.eq_1, L3.evS.eq_2, L3.evS.eq_3, L3.evS.eq_4, L3.evS.eq_5, L3.evS.eq_6, L3.evS.eq_9, L3.evS.eq_10, L3.evS.eq_11, L3.evS.eq_12, L3.evS.eq_13, L3.evS.eq_14, L3.evE.eq_1, L3.evE.eq_2, L3.evE.eq_3, L3.evE.eq_4, L3.evE.eq_5, L3.evE.eq_6, L3.evE.eq_7, L3.evE.eq_8, L3.evE.eq_9, L3.evE.eq_10, L3.evE.eq_11, L3.evE.eq_12, L3.evE.eq_13, L3.evE.eq_14, L3.evE.eq_15, L3.evE.eq_16, L3.evE.eq_18, L3.evE.eq_19, L3.evE.eq_20, L3.evE.eq_21, L3.evA, L3.evP, Law.evS_whlR, Law.evS_frR, Law.evE_lcR, Law.frR_nil, Law.frR_cons, Law.lcR_nil, Law.lcR_cons, L3.argOf, L3.Rs.bind, L3.opFin, L3.avDs, L3.avD, L3.vDs, L3.Op.keeps, L3.Op.run, L3.i1, L3.i2, L3.a1, L3.a2, L3.l1, L3.gd, L3.oB, L3.oI, L3.toB, L3.toI, L3.rdVar, L3.mvVar, L3.stVar, L3.stR, L3.stTg, L3.stVars, L3.stVarsO, L3.passA, L3.backA, L3.doCall, L3.cellOf, L3.start3, Law.outs1, Law.outs2, Law.outs3, Law.outs4, L3.resOf, L3.runFn, L3.keepB, L3.Ow.isB, L3.Ow.isOwn, L3.isTys, L3.isTy, L3.itFin, L3.ItK.run, L3.kRng1, L3.kRng2, L3.kSeq, L3.seqD, L3.seqD2, L3.kEnm, L3.enmD, Law.fit_of, Law.fit3, L3.noEr, L3.slFin, L3.slice3, L3.shE, L3.Tg.slots, L3.wipeE, L3.restE, L3.asB, Law.sz0, Law.sz1, Law.sz2, L3.rAdd3, L3.rLen3, L3.rLt3, L3.rIdx3, Law.at30, Law.at31, Law.at32, Law.at20, Law.at21, L3.isNone, Law.eqD_int, Law.md0, Law.md1, Law.md2, Law.md3, Law.md4, Law.md5, Law.md6, Law.md7, Law.md8, Law.md9, Law.md10, Law.md11, Law.md12, Law.md13, Law.md14, Law.md15, Law.md16, Law.md17, Law.md18, Law.md19, Law.md20, Law.md21, Law.md22, Law.md23, Law.md24, Law.md25, Law.md26, Law.md27, Law.md28, L15_0, h x hx]) (by rw [sizeLine_eq]; simp; omega)
  rw [this]
  simp
theorem is_refl (k : Nat) : ∀ (d : D), pl d = true → dp d ≤ k → ∀ n, k ≤ n → callD tb WN (n + 1) 15 [(false, d), (false, d)] = .ok (.bl true) false [none, none] := by
  induction k with
  | zero =>
    intro d h1 h2 n _
    rw [u15]; unfold fn__law_is
    cases d with
    | non => simp [L3.evSs, L3.evS.eq_1, L3.evS.eq_2, L3.evS.eq_3, L3.evS.eq_4, L3.evS.eq_5, L3.evS.eq_6, L3.evS.eq_9, L3.evS.eq_10, L3.evS.eq_11, L3.evS.eq_12, L3.evS.eq_13, L3.evS.eq_14, L3.evE.eq_1, L3.evE.eq_2, L3.evE.eq_3, L3.evE.eq_4, L3.evE.eq_5, L3.evE.eq_6, L3.evE.eq_7, L3.evE.eq_8, L3.evE.eq_9, L3.evE.eq_10, L3.evE.eq_11, L3.evE.eq_12, L3.evE.eq_13, L3.evE.eq_14, L3.evE.eq_15, L3.evE.eq_16, L3.evE.eq_18, L3.evE.eq_19, L3.evE.eq_20, L3.evE.eq_21, L3.evA, L3.evP, Law.evS_whlR, Law.evS_frR, Law.evE_lcR, Law.frR_nil, Law.frR_cons, Law.lcR_nil, Law.lcR_cons, L3.argOf, L3.Rs.bind, L3.opFin, L3.avDs, L3.avD, L3.vDs, L3.Op.keeps, L3.Op.run, L3.i1, L3.i2, L3.a1, L3.a2, L3.l1, L3.gd, L3.oB, L3.oI, L3.toB, L3.toI, L3.rdVar, L3.mvVar, L3.stVar, L3.stR, L3.stTg, L3.stVars, L3.stVarsO, L3.passA, L3.backA, L3.doCall, L3.cellOf, L3.start3, Law.outs1, Law.outs2, Law.outs3, Law.outs4, L3.resOf, L3.runFn, L3.keepB, L3.Ow.isB, L3.Ow.isOwn, L3.isTys, L3.isTy, L3.itFin, L3.ItK.run, L3.kRng1, L3.kRng2, L3.kSeq, L3.seqD, L3.seqD2, L3.kEnm, L3.enmD, Law.fit_of, Law.fit3, L3.noEr, L3.slFin, L3.slice3, L3.shE, L3.Tg.slots, L3.wipeE, L3.restE, L3.asB, Law.sz0, Law.sz1, Law.sz2, L3.rAdd3, L3.rLen3, L3.rLt3, L3.rIdx3, Law.at30, Law.at31, Law.at32, Law.at20, Law.at21, L3.isNone, Law.eqD_int, Law.md0, Law.md1, Law.md2, Law.md3, Law.md4, Law.md5, Law.md6, Law.md7, Law.md8, Law.md9, Law.md10, Law.md11, Law.md12, Law.md13, Law.md14, Law.md15, Law.md16, Law.md17, Law.md18, Law.md19, Law.md20, Law.md21, Law.md22, Law.md23, Law.md24, Law.md25, Law.md26, Law.md27, Law.md28, eqD_bl]
    | bl b => simp [L3.evSs, L3.evS.eq_1, L3.evS.eq_2, L3.evS.eq_3, L3.evS.eq_4, L3.evS.eq_5, L3.evS.eq_6, L3.evS.eq_9, L3.evS.eq_10, L3.evS.eq_11, L3.evS.eq_12, L3.evS.eq_13, L3.evS.eq_14, L3.evE.eq_1, L3.evE.eq_2, L3.evE.eq_3, L3.evE.eq_4, L3.evE.eq_5, L3.evE.eq_6, L3.evE.eq_7, L3.evE.eq_8, L3.evE.eq_9, L3.evE.eq_10, L3.evE.eq_11, L3.evE.eq_12, L3.evE.eq_13, L3.evE.eq_14, L3.evE.eq_15, L3.evE.eq_16, L3.evE.eq_18, L3.evE.eq_19, L3.evE.eq_20, L3.evE.eq_21, L3.evA, L3.evP, Law.evS_whlR, Law.evS_frR, Law.evE_lcR, Law.frR_nil, Law.frR_cons, Law.lcR_nil, Law.lcR_cons, L3.argOf, L3.Rs.bind, L3.opFin, L3.avDs, L3.avD, L3.vDs, L3.Op.keeps, L3.Op.run, L3.i1, L3.i2, L3.a1, L3.a2, L3.l1, L3.gd, L3.oB, L3.oI, L3.toB, L3.toI, L3.rdVar, L3.mvVar, L3.stVar, L3.stR, L3.stTg, L3.stVars, L3.stVarsO, L3.passA, L3.backA, L3.doCall, L3.cellOf, L3.start3, Law.outs1, Law.outs2, Law.outs3, Law.outs4, L3.resOf, L3.runFn, L3.keepB, L3.Ow.isB, L3.Ow.isOwn, L3.isTys, L3.isTy, L3.itFin, L3.ItK.run, L3.kRng1, L3.kRng2, L3.kSeq, L3.seqD, L3.seqD2, L3.kEnm, L3.enmD, Law.fit_of, Law.fit3, L3.noEr, L3.slFin, L3.slice3, L3.shE, L3.Tg.slots, L3.wipeE, L3.restE, L3.asB, Law.sz0, Law.sz1, Law.sz2, L3.rAdd3, L3.rLen3, L3.rLt3, L3.rIdx3, Law.at30, Law.at31, Law.at32, Law.at20, Law.at21, L3.isNone, Law.eqD_int, Law.md0, Law.md1, Law.md2, Law.md3, Law.md4, Law.md5, Law.md6, Law.md7, Law.md8, Law.md9, Law.md10, Law.md11, Law.md12, Law.md13, Law.md14, Law.md15, Law.md16, Law.md17, Law.md18, Law.md19, Law.md20, Law.md21, Law.md22, Law.md23, Law.md24, Law.md25, Law.md26, Law.md27, Law.md28, eqD_bl]
    | int i => simp [L3.evSs, L3.evS.eq_1, L3.evS.eq_2, L3.evS.eq_3, L3.evS.eq_4, L3.evS.eq_5, L3.evS.eq_6, L3.evS.eq_9, L3.evS.eq_10, L3.evS.eq_11, L3.evS.eq_12, L3.evS.eq_13, L3.evS.eq_14, L3.evE.eq_1, L3.evE.eq_2, L3.evE.eq_3, L3.evE.eq_4, L3.evE.eq_5, L3.evE.eq_6, L3.evE.eq_7, L3.evE.eq_8, L3.evE.eq_9, L3.evE.eq_10, L3.evE.eq_11, L3.evE.eq_12, L3.evE.eq_13, L3.evE.eq_14, L3.evE.eq_15, L3.evE.eq_16, L3.evE.eq_18, L3.evE.eq_19, L3.evE.eq_20, L3.evE.eq_21, L3.evA, L3.evP, Law.evS_whlR, Law.evS_frR, Law.evE_lcR, Law.frR_nil, Law.frR_cons, Law.lcR_nil, Law.lcR_cons, L3.argOf, L3.Rs.bind, L3.opFin, L3.avDs, L3.avD, L3.vDs, L3.Op.keeps, L3.Op.run, L3.i1, L3.i2, L3.a1, L3.a2, L3.l1, L3.gd, L3.oB, L3.oI, L3.toB, L3.toI, L3.rdVar, L3.mvVar, L3.stVar, L3.stR, L3.stTg, L3.stVars, L3.stVarsO, L3.passA, L3.backA, L3.doCall, L3.cellOf, L3.start3, Law.outs1, Law.outs2, Law.outs3, Law.outs4, L3.resOf, L3.runFn, L3.keepB, L3.Ow.isB, L3.Ow.isOwn, L3.isTys, L3.isTy, L3.itFin, L3.ItK.run, L3.kRng1, L3.kRng2, L3.kSeq, L3.seqD, L3.seqD2, L3.kEnm, L3.enmD, Law.fit_of, Law.fit3, L3.noEr, L3.slFin, L3.slice3, L3.shE, L3.Tg.slots, L3.wipeE, L3.restE, L3.asB, Law.sz0, Law.sz1, Law.sz2, L3.rAdd3, L3.rLen3, L3.rLt3, L3.rIdx3, Law.at30, Law.at31, Law.at32, Law.at20, Law.at21, L3.isNone, Law.eqD_int, Law.md0, Law.md1, Law.md2, Law.md3, Law.md4, Law.md5, Law.md6, Law.md7, Law.md8, Law.md9, Law.md10, Law.md11, Law.md12, Law.md13, Law.md14, Law.md15, Law.md16, Law.md17, Law.md18, Law.md19, Law.md20, Law.md21, Law.md22, Law.md23, Law.md24, Law.md25, Law.md26, Law.md27, Law.md28, eqD_bl]
    | tup xs => simp [dp] at h2
    | lst xs => simp [dp] at h2
    | _ => cases h1
  | succ k ih =>
    intro d h1 h2 n hn
    obtain ⟨n, rfl⟩ : ∃ m, n = m + 1 := ⟨n - 1, by omega⟩
    cases d with
    | tup xs =>
      simp only [pl, Bool.and_eq_true, decide_eq_true_eq] at h1
      simp only [dp] at h2
      have e := is_items (n + 1) (.tup xs) (.tup xs) xs h1.2 (fun x hx => ih x (pls_mem h1.1 x hx) (Nat.le_trans (dps_mem x hx) (by omega)) n (by omega))
      rw [u15]; unfold fn__law_is
      simp [L3.evSs, L3.evS.eq_1, L3.evS.eq_2, L3.evS.eq_3, L3.evS.eq_4, L3.evS.eq_5, L3.evS.eq_6, L3.evS.eq_9, L3.evS.eq_10, L3.evS.eq_11, L3.evS.eq_12, L3.evS.eq_13, L3.evS.eq_14, L3.evE.eq_1, L3.evE.eq_2, L3.evE.eq_3, L3.evE.eq_4, L3.evE.eq_5, L3.evE.eq_6, L3.evE.eq_7, L3.evE.eq_8, L3.evE.eq_9, L3.evE.eq_10, L3.evE.eq_11, L3.evE.eq_12, L3.evE.eq_13, L3.evE.eq_14, L3.evE.eq_15, L3.evE.eq_16, L3.evE.eq_18, L3.evE.eq_19, L3.evE.eq_20, L3.evE.eq_21, L3.evA, L3.evP, Law.evS_whlR, Law.evS_frR, Law.evE_lcR, L3.argOf, L3.Rs.bind, L3.opFin, L3.avDs, L3.avD, L3.vDs, L3.Op.keeps, L3.Op.run, L3.i1, L3.i2, L3.a1, L3.a2, L3.l1, L3.gd, L3.oB, L3.oI, L3.toB, L3.toI, L3.rdVar, L3.mvVar, L3.stVar, L3.stR, L3.stTg, L3.stVars, L3.stVarsO, L3.passA, L3.backA, L3.doCall, L3.cellOf, L3.start3, Law.outs1, Law.outs2, Law.outs3, Law.outs4, L3.resOf, L3.runFn, L3.keepB, L3.Ow.isB, L3.Ow.isOwn, L3.isTys, L3.isTy, L3.itFin, L3.ItK.run, L3.kRng1, L3.kRng2, L3.kSeq, L3.seqD, L3.seqD2, L3.kEnm, L3.enmD, Law.fit_of, Law.fit3, L3.noEr, L3.slFin, L3.slice3, L3.shE, L3.Tg.slots, L3.wipeE, L3.restE, L3.asB, Law.sz0, Law.sz1, Law.sz2, L3.rAdd3, L3.rLen3, L3.rLt3, L3.rIdx3, Law.at30, Law.at31, Law.at32, Law.at20, Law.at21, L3.isNone, Law.eqD_int, Law.md0, Law.md1, Law.md2, Law.md3, Law.md4, Law.md5, Law.md6, Law.md7, Law.md8, Law.md9, Law.md10, Law.md11, Law.md12, Law.md13, Law.md14, Law.md15, Law.md16, Law.md17, Law.md18, Law.md19, Law.md20, Law.md21, Law.md22, Law.md23, Law.md24, Law.md25, Law.md26, Law.md27, Law.md28, eqD_bl, kZip, e, asB_true, all_true]
    | lst xs =>
      simp only [pl, Bool.and_eq_true, decide_eq_true_eq] at h1
      simp only [dp] at h2
      have e := is_items (n + 1) (.lst xs) (.lst xs) xs h1.2 (fun x hx => ih x (pls_mem h1.1 x hx) (Nat.le_trans (dps_mem x hx) (by omega)) n (by omega))
      rw [u15]; unfold fn__law_is
      simp [L3.evSs, L3.evS.eq_1, L3.evS.eq_2, L3.evS.eq_3, L3.evS.eq_4, L3.evS.eq_5, L3.evS.eq_6, L3.evS.eq_9, L3.evS.eq_10, L3.evS.eq_11, L3.evS.eq_12, L3.evS.eq_13, L3.evS.eq_14, L3.evE.eq_1, L3.evE.eq_2, L3.evE.eq_3, L3.evE.eq_4, L3.evE.eq_5, L3.evE.eq_6, L3.evE.eq_7, L3.evE.eq_8, L3.evE.eq_9, L3.evE.eq_10, L3.evE.eq_11, L3.evE.eq_12, L3.evE.eq_13, L3.evE.eq_14, L3.evE.eq_15, L3.evE.eq_16, L3.evE.eq_18, L3.evE.eq_19, L3.evE.eq_20, L3.evE.eq_21, L3.evA, L3.evP, Law.evS_whlR, Law.evS_frR, Law.evE_lcR, L3.argOf, L3.Rs.bind, L3.opFin, L3.avDs, L3.avD, L3.vDs, L3.Op.keeps, L3.Op.run, L3.i1, L3.i2, L3.a1, L3.a2, L3.l1, L3.gd, L3.oB, L3.oI, L3.toB, L3.toI, L3.rdVar, L3.mvVar, L3.stVar, L3.stR, L3.stTg, L3.stVars, L3.stVarsO, L3.passA, L3.backA, L3.doCall, L3.cellOf, L3.start3, Law.outs1, Law.outs2, Law.outs3, Law.outs4, L3.resOf, L3.runFn, L3.keepB, L3.Ow.isB, L3.Ow.isOwn, L3.isTys, L3.isTy, L3.itFin, L3.ItK.run, L3.kRng1, L3.kRng2, L3.kSeq, L3.seqD, L3.seqD2, L3.kEnm, L3.enmD, Law.fit_of, Law.fit3, L3.noEr, L3.slFin, L3.slice3, L3.shE, L3.Tg.slots, L3.wipeE, L3.restE, L3.asB, Law.sz0, Law.sz1, Law.sz2, L3.rAdd3, L3.rLen3, L3.rLt3, L3.rIdx3, Law.at30, Law.at31, Law.at32, Law.at20, Law.at21, L3.isNone, Law.eqD_int, Law.md0, Law.md1, Law.md2, Law.md3, Law.md4, Law.md5, Law.md6, Law.md7, Law.md8, Law.md9, Law.md10, Law.md11, Law.md12, Law.md13, Law.md14, Law.md15, Law.md16, Law.md17, Law.md18, Law.md19, Law.md20, Law.md21, Law.md22, Law.md23, Law.md24, Law.md25, Law.md26, Law.md27, Law.md28, eqD_bl, kZip, e, asB_true, all_true]
    | non => rw [u15]; unfold fn__law_is; simp [L3.evSs, L3.evS.eq_1, L3.evS.eq_2, L3.evS.eq_3, L3.evS.eq_4, L3.evS.eq_5, L3.evS.eq_6, L3.evS.eq_9, L3.evS.eq_10, L3.evS.eq_11, L3.evS.eq_12, L3.evS.eq_13, L3.evS.eq_14, L3.evE.eq_1, L3.evE.eq_2, L3.evE.eq_3, L3.evE.eq_4, L3.evE.eq_5, L3.evE.eq_6, L3.evE.eq_7, L3.evE.eq_8, L3.evE.eq_9, L3.evE.eq_10, L3.evE.eq_11, L3.evE.eq_12, L3.evE.eq_13, L3.evE.eq_14, L3.evE.eq_15, L3.evE.eq_16, L3.evE.eq_18, L3.evE.eq_19, L3.evE.eq_20, L3.evE.eq_21, L3.evA, L3.evP, Law.evS_whlR, Law.evS_frR, Law.evE_lcR, Law.frR_nil, Law.frR_cons, Law.lcR_nil, Law.lcR_cons, L3.argOf, L3.Rs.bind, L3.opFin, L3.avDs, L3.avD, L3.vDs, L3.Op.keeps, L3.Op.run, L3.i1, L3.i2, L3.a1, L3.a2, L3.l1, L3.gd, L3.oB, L3.oI, L3.toB, L3.toI, L3.rdVar, L3.mvVar, L3.stVar, L3.stR, L3.stTg, L3.stVars, L3.stVarsO, L3.passA, L3.backA, L3.doCall, L3.cellOf, L3.start3, Law.outs1, Law.outs2, Law.outs3, Law.outs4, L3.resOf, L3.runFn, L3.keepB, L3.Ow.isB, L3.Ow.isOwn, L3.isTys, L3.isTy, L3.itFin, L3.ItK.run, L3.kRng1, L3.kRng2, L3.kSeq, L3.seqD, L3.seqD2, L3.kEnm, L3.enmD, Law.fit_of, Law.fit3, L3.noEr, L3.slFin, L3.slice3, L3.shE, L3.Tg.slots, L3.wipeE, L3.restE, L3.asB, Law.sz0, Law.sz1, Law.sz2, L3.rAdd3, L3.rLen3, L3.rLt3, L3.rIdx3, Law.at30, Law.at31, Law.at32, Law.at20, Law.at21, L3.isNone, Law.eqD_int, Law.md0, Law.md1, Law.md2, Law.md3, Law.md4, Law.md5, Law.md6, Law.md7, Law.md8, Law.md9, Law.md10, Law.md11, Law.md12, Law.md13, Law.md14, Law.md15, Law.md16, Law.md17, Law.md18, Law.md19, Law.md20, Law.md21, Law.md22, Law.md23, Law.md24, Law.md25, Law.md26, Law.md27, Law.md28, eqD_bl]
    | bl b => rw [u15]; unfold fn__law_is; simp [L3.evSs, L3.evS.eq_1, L3.evS.eq_2, L3.evS.eq_3, L3.evS.eq_4, L3.evS.eq_5, L3.evS.eq_6, L3.evS.eq_9, L3.evS.eq_10, L3.evS.eq_11, L3.evS.eq_12, L3.evS.eq_13, L3.evS.eq_14, L3.evE.eq_1, L3.evE.eq_2, L3.evE.eq_3, L3.evE.eq_4, L3.evE.eq_5, L3.evE.eq_6, L3.evE.eq_7, L3.evE.eq_8, L3.evE.eq_9, L3.evE.eq_10, L3.evE.eq_11, L3.evE.eq_12, L3.evE.eq_13, L3.evE.eq_14, L3.evE.eq_15, L3.evE.eq_16, L3.evE.eq_18, L3.evE.eq_19, L3.evE.eq_20, L3.evE.eq_21, L3.evA, L3.evP, Law.evS_whlR, Law.evS_frR, Law.evE_lcR, Law.frR_nil, Law.frR_cons, Law.lcR_nil, Law.lcR_cons, L3.argOf, L3.Rs.bind, L3.opFin, L3.avDs, L3.avD, L3.vDs, L3.Op.keeps, L3.Op.run, L3.i1, L3.i2, L3.a1, L3.a2, L3.l1, L3.gd, L3.oB, L3.oI, L3.toB, L3.toI, L3.rdVar, L3.mvVar, L3.stVar, L3.stR, L3.stTg, L3.stVars, L3.stVarsO, L3.passA, L3.backA, L3.doCall, L3.cellOf, L3.start3, Law.outs1, Law.outs2, Law.outs3, Law.outs4, L3.resOf, L3.runFn, L3.keepB, L3.Ow.isB, L3.Ow.isOwn, L3.isTys, L3.isTy, L3.itFin, L3.ItK.run, L3.kRng1, L3.kRng2, L3.kSeq, L3.seqD, L3.seqD2, L3.kEnm, L3.enmD, Law.fit_of, Law.fit3, L3.noEr, L3.slFin, L3.slice3, L3.shE, L3.Tg.slots, L3.wipeE, L3.restE, L3.asB, Law.sz0, Law.sz1, Law.sz2, L3.rAdd3, L3.rLen3, L3.rLt3, L3.rIdx3, Law.at30, Law.at31, Law.at32, Law.at20, Law.at21, L3.isNone, Law.eqD_int, Law.md0, Law.md1, Law.md2, Law.md3, Law.md4, Law.md5, Law.md6, Law.md7, Law.md8, Law.md9, Law.md10, Law.md11, Law.md12, Law.md13, Law.md14, Law.md15, Law.md16, Law.md17, Law.md18, Law.md19, Law.md20, Law.md21, Law.md22, Law.md23, Law.md24, Law.md25, Law.md26, Law.md27, Law.md28, eqD_bl]
    | int i => rw [u15]; unfold fn__law_is; simp [L3.evSs, L3.evS.eq_1, L3.evS.eq_2, L3.evS.eq_3, L3.evS.eq_4, L3.evS.eq_5, L3.evS.eq_6, L3.evS.eq_9, L3.evS.eq_10, L3.evS.eq_11, L3.evS.eq_12, L3.evS.eq_13, L3.evS.eq_14, L3.evE.eq_1, L3.evE.eq_2, L3.evE.eq_3, L3.evE.eq_4, L3.evE.eq_5, L3.evE.eq_6, L3.evE.eq_7, L3.evE.eq_8, L3.evE.eq_9, L3.evE.eq_10, L3.evE.eq_11, L3.evE.eq_12, L3.evE.eq_13, L3.evE.eq_14, L3.evE.eq_15, L3.evE.eq_16, L3.evE.eq_18, L3.evE.eq_19, L3.evE.eq_20, L3.evE.eq_21, L3.evA, L3.evP, Law.evS_whlR, Law.evS_frR, Law.evE_lcR, Law.frR_nil, Law.frR_cons, Law.lcR_nil, Law.lcR_cons, L3.argOf, L3.Rs.bind, L3.opFin, L3.avDs, L3.avD, L3.vDs, L3.Op.keeps, L3.Op.run, L3.i1, L3.i2, L3.a1, L3.a2, L3.l1, L3.gd, L3.oB, L3.oI, L3.toB, L3.toI, L3.rdVar, L3.mvVar, L3.stVar, L3.stR, L3.stTg, L3.stVars, L3.stVarsO, L3.passA, L3.backA, L3.doCall, L3.cellOf, L3.start3, Law.outs1, Law.outs2, Law.outs3, Law.outs4, L3.resOf, L3.runFn, L3.keepB, L3.Ow.isB, L3.Ow.isOwn, L3.isTys, L3.isTy, L3.itFin, L3.ItK.run, L3.kRng1, L3.kRng2, L3.kSeq, L3.seqD, L3.seqD2, L3.kEnm, L3.enmD, Law.fit_of, Law.fit3, L3.noEr, L3.slFin, L3.slice3, L3.shE, L3.Tg.slots, L3.wipeE, L3.restE, L3.asB, Law.sz0, Law.sz1, Law.sz2, L3.rAdd3, L3.rLen3, L3.rLt3, L3.rIdx3, Law.at30, Law.at31, Law.at32, Law.at20, Law.at21, L3.isNone, Law.eqD_int, Law.md0, Law.md1, Law.md2, Law.md3, Law.md4, Law.md5, Law.md6, Law.md7, Law.md8, Law.md9, Law.md10, Law.md11, Law.md12, Law.md13, Law.md14, Law.md15, Law.md16, Law.md17, Law.md18, Law.md19, Law.md20, Law.md21, Law.md22, Law.md23, Law.md24, Law.md25, Law.md26, Law.md27, Law.md28, eqD_bl]
    | _ => cases h1
end Law

namespace Law
open PySem PySem.Spec PyProof.Rows L2 L3
def kc : Dk := ⟨69621, 0, 17, 2147483629, 7919, 48271, 2147483647, 1009, 69621, 2147483647, 2003, 40692, 2147483399⟩
theorem kc_ok : kc.Ok := ⟨by decide, by decide, by decide, by decide, by decide, by decide, by decide, by decide, by decide, by decide⟩
theorem c_draw (n : Nat) : callD tb WN (n + 1) 13 = runFn WN (callD tb WN n) (mdOf tb) (fnDrawP kc) := callD_succ rfl
theorem c_any (n : Nat) : callD tb WN (n + 1) 14 = runFn WN (callD tb WN n) (mdOf tb) (fnAny 13) := callD_succ rfl
theorem c_hand (n : Nat) : callD tb WN (n + 1) 12 = runFn WN (callD tb WN n) (mdOf tb) (fnHand 61 9) := callD_succ rfl
/-- what the hand is -/
def Hd (h : D) : Prop := ∃ cells a b c d, h = hand cells a b c d ∧ (∀ x ∈ cells, 0 ≤ x) ∧ 0 ≤ a ∧ 0 ≤ b
theorem any_of (n : Nat) {h : D} {xs : List D} (H : Hd h) (h0 : 0 < xs.length) (h1 : xs.length < 1073741824) : ∃ h' x, Hd h' ∧ x ∈ xs ∧ callD tb WN (n + 2) 14 [(true, h), (false, .lst xs)] = .ok x false [some (.brw, h'), none] := by
  obtain ⟨cells, a, b, c, d, rfl, hc, ha, hb⟩ := H
  obtain ⟨a', b', c', d', x, g1, g2, g3, g4⟩ := any_okX (w := WN) (md := mdOf tb) (C := callD tb WN (n + 1)) (c := c) (d := d) kc_ok cellP (c_draw n) rfl hc ha hb h0 h1
  exact ⟨_, x, ⟨cells, a', b', c', d', rfl, hc, g1, g2⟩, g3, by rw [c_any]; exact g4⟩
theorem draw_of (n : Nat) {h : D} (m : Int) (H : Hd h) (h0 : 0 < m) (h1 : m.natAbs < 2 ^ 1000) : ∃ h' r, Hd h' ∧ 0 ≤ r ∧ r < m ∧ callD tb WN (n + 1) 13 [(true, h), (false, .int m)] = .ok (.int r) false [some (.brw, h'), none] := by
  obtain ⟨cells, a, b, c, d, rfl, hc, ha, hb⟩ := H
  obtain ⟨a', b', c', d', r, g1, g2, g3, g4, g5⟩ := draw_okX (w := WN) (C := callD tb WN n) (md := mdOf tb) (c := c) (d := d) kc_ok cellP hc ha hb h0 (fun b => divB 1000 (by decide) h0 h1)
  exact ⟨_, r, ⟨cells, a', b', c', d', rfl, hc, g1, g2⟩, g3, g4, by rw [c_draw]; exact g5⟩
theorem c_word_c (n : Nat) (i : Int) : callD tb WN (n + 1) 20 [(false, .thk false (.exc 2 ["at"] [.int i]))] = .ok (.tup [.str "coins", .int i]) false [none] := by
  rw [u20]; kernel_rfl
theorem c_word_n (n : Nat) : callD tb WN (n + 1) 20 [(false, .thk false (.exc 1 [] []))] = .ok (.str "number") false [none] := by
  rw [u20]; kernel_rfl
theorem c_word_l (n : Nat) (d : D) : callD tb WN (n + 1) 20 [(false, .thk true d)] = .ok (.str "let") false [none] := by
  rw [u20]; kernel_rfl
theorem co_div {a b g : Int} (h : IsG g a b) (ha : 0 < a) : 0 < g ∧ g ∣ a ∧ g ∣ b ∧ Co (a / g) (b / g) := by
  obtain ⟨x, y⟩ := (h.2 g).mp (Int.dvd_refl g)
  have g0 : 0 < g := by
    have := h.1
    rcases Int.lt_or_eq_of_le this with z | z
    · exact z
    · subst z
      obtain ⟨k, e⟩ := x
      omega
  refine ⟨g0, x, y, fun d d1 d2 => ?_⟩
  have e1 := Int.mul_ediv_cancel' x
  have e2 := Int.mul_ediv_cancel' y
  have f1 : g * d ∣ a := by rw [← e1]; exact Int.mul_dvd_mul_left g d1
  have f2 : g * d ∣ b := by rw [← e2]; exact Int.mul_dvd_mul_left g d2
  have f3 := (h.2 (g * d)).mpr ⟨f1, f2⟩
  obtain ⟨k, e⟩ := f3
  refine ⟨k, ?_⟩
  have : g * (d * k) = g * 1 := by rw [← Int.mul_assoc, ← e, Int.mul_one]
  exact (Int.eq_of_mul_eq_mul_left (by omega) this).symm
theorem div_coin {a g m : Int} (ha : 1 ≤ a) (hm : a ≤ m) (g0 : 0 < g) (hd : g ∣ a) : 1 ≤ a / g ∧ a / g ≤ m := by
  constructor
  · rw [Int.le_ediv_iff_mul_le g0]
    have := Int.le_of_dvd (by omega) hd
    omega
  · exact Int.le_trans (Int.ediv_le_self g (by omega)) hm
theorem c_pair (n : Nat) {h : D} (H : Hd h) (m : Int) (m0 : 1 ≤ m) (m1 : m ≤ MS) : ∃ h' a b, Hd h' ∧ (1 ≤ a ∧ a ≤ m) ∧ (1 ≤ b ∧ b ≤ m) ∧ Co a b ∧ callD tb WN (n + 2) 19 [(true, h), (false, .int m)] = .ok (.tup [.int a, .int b]) false [some (.brw, h'), none] := by
  have ml : m.natAbs < 2 ^ 1000 := up_lt 1000 (by decide) (Coin.nlt ⟨m0, m1⟩)
  obtain ⟨h1, r, H1, r0, r1, e0⟩ := draw_of n m H (by omega) ml
  obtain ⟨h2, s, H2, s0, s1, e1⟩ := draw_of n m H1 (by omega) ml
  have ca : Coin (1 + r) := ⟨by omega, by omega⟩
  have cb : Coin (1 + s) := ⟨by omega, by omega⟩
  obtain ⟨g, G, e2⟩ := c_gcd n ca cb
  obtain ⟨g0, d1, d2, co⟩ := co_div G (by omega)
  have k1 := div_coin (m := m) (show 1 ≤ 1 + r by omega) (by omega) g0 d1
  have k2 := div_coin (m := m) (show 1 ≤ 1 + s by omega) (by omega) g0 d2
  refine ⟨h2, _, _, H2, k1, k2, co, ?_⟩
  have gl : g.natAbs < 2 ^ 333 := by
    have := Int.le_of_dvd (by omega) d1
    exact Coin.nlt ⟨by omega, by have := ca.2; omega⟩
  have v1 : divOk (1 + r) g = true := divB 333 (by decide) g0 gl
  have v2 : divOk (1 + s) g = true := divB 333 (by decide) g0 gl
  rw [u19]; unfold fn__law_prime_pair
  simp [L3.evSs, L3.evS.eq_1, L3.evS.eq_2, L3.evS.eq_3, L3.evS.eq_4, L3.evS.eq_5, L3.evS.eq_6, L3.evS.eq_9, L3.evS.eq_10, L3.evS.eq_11, L3.evS.eq_12, L3.evS.eq_13, L3.evS.eq_14, L3.evE.eq_1, L3.evE.eq_2, L3.evE.eq_3, L3.evE.eq_4, L3.evE.eq_5, L3.evE.eq_6, L3.evE.eq_7, L3.evE.eq_8, L3.evE.eq_9, L3.evE.eq_10, L3.evE.eq_11, L3.evE.eq_12, L3.evE.eq_13, L3.evE.eq_14, L3.evE.eq_15, L3.evE.eq_16, L3.evE.eq_18, L3.evE.eq_19, L3.evE.eq_20, L3.evE.eq_21, L3.evA, L3.evP, Law.evS_whlR, Law.evS_frR, Law.evE_lcR, Law.frR_nil, Law.frR_cons, Law.lcR_nil, Law.lcR_cons, L3.argOf, L3.Rs.bind, L3.opFin, L3.avDs, L3.avD, L3.vDs, L3.Op.keeps, L3.Op.run, L3.i1, L3.i2, L3.a1, L3.a2, L3.l1, L3.gd, L3.oB, L3.oI, L3.toB, L3.toI, L3.rdVar, L3.mvVar, L3.stVar, L3.stR, L3.stTg, L3.stVars, L3.stVarsO, L3.passA, L3.backA, L3.doCall, L3.cellOf, L3.start3, Law.outs1, Law.outs2, Law.outs3, Law.outs4, L3.resOf, L3.runFn, L3.keepB, L3.Ow.isB, L3.Ow.isOwn, L3.isTys, L3.isTy, L3.itFin, L3.ItK.run, L3.kRng1, L3.kRng2, L3.kSeq, L3.seqD, L3.seqD2, L3.kEnm, L3.enmD, Law.fit_of, Law.fit3, L3.noEr, L3.slFin, L3.slice3, L3.shE, L3.Tg.slots, L3.wipeE, L3.restE, L3.asB, Law.sz0, Law.sz1, Law.sz2, L3.rAdd3, L3.rLen3, L3.rLt3, L3.rIdx3, Law.at30, Law.at31, Law.at32, Law.at20, Law.at21, L3.isNone, Law.eqD_int, Law.md0, Law.md1, Law.md2, Law.md3, Law.md4, Law.md5, Law.md6, Law.md7, Law.md8, Law.md9, Law.md10, Law.md11, Law.md12, Law.md13, Law.md14, Law.md15, Law.md16, Law.md17, Law.md18, Law.md19, Law.md20, Law.md21, Law.md22, Law.md23, Law.md24, Law.md25, Law.md26, Law.md27, Law.md28, e0, e1, e2, v1, v2]
end Law

namespace Law
open PySem PySem.Spec PyProof.Rows L2 L3
theorem pow60 : CPow 10 60 := by decide
theorem pow50 : CPow 10 50 := by decide
theorem pow30 : CPow 10 30 := by decide
abbrev M60 : Int := 1000000000000000000000000000000000000000000000000000000000000
abbrev MT : Int := 1000000000000000000000000000000000000000000000000000000000000000000000000000000000000000000000000000000000000000000000000
theorem MTT : M60 * M60 = MT := by decide
theorem mok60 : mulOk M60 M60 = true := by decide
theorem mulC {i j : Int} (hi : i.natAbs < 2 ^ 997) (hj : j.natAbs < 2 ^ 997) : mulOk i j = true := mulB 997 (by decide) (by decide) hi hj
theorem small_lt {r : Int} (h0 : 0 ≤ r) (h1 : r < 1000) : r.natAbs < 2 ^ 997 := Nat.lt_of_lt_of_le (show r.natAbs < 1000 by omega) (by decide)
theorem Coin.n997 {a : Int} (h : Coin a) : a.natAbs < 2 ^ 997 := up_lt 997 (by decide) h.nlt
theorem lM : 1000000 ≤ MS ∧ MS * 1000 ≤ MT ∧ MT * 1000 ≤ MQ ∧ MQ * 1000 ≤ MN := by decide
theorem c_numbers (n : Nat) {h : D} (H : Hd h) {one other : Int} (c1 : Coin one) (c2 : Coin other) : ∃ h' xs, Hd h' ∧ (∀ d ∈ xs, ∃ i, d = .int i ∧ Num i) ∧ callD tb WN (n + 2) 24 [(true, h), (false, .int one), (false, .int other)] = .ok (.lst xs) true [some (.brw, h'), none, none] := by
  obtain ⟨h1, r1, H1, a1, b1, e1⟩ := draw_of n 50 H (by decide) (by decide)
  obtain ⟨h2, r2, H2, a2, b2, e2⟩ := draw_of n 50 H1 (by decide) (by decide)
  obtain ⟨h3, r3, H3, a3, b3, e3⟩ := draw_of n 5 H2 (by decide) (by decide)
  obtain ⟨h4, r4, H4, a4, b4, e4⟩ := draw_of n 9 H3 (by decide) (by decide)
  obtain ⟨h5, r5, H5, a5, b5, e5⟩ := draw_of n 5 H4 (by decide) (by decide)
  obtain ⟨h6, r6, H6, a6, b6, e6⟩ := draw_of n MT H5 (by decide) (by decide)
  obtain ⟨z1, z2, z3, z4⟩ := lM
  have o1 := c1.1
  have o2 := c2.1
  have p1 : 1 ≤ one * other := by
    have := Int.mul_le_mul o1 o2 (by decide) (by omega)
    omega
  have p2 : one * other ≤ MQ := by
    have := Int.mul_le_mul c1.2 c2.2 (by omega) (by decide)
    rwa [MSS] at this
  have pn : (one * other).natAbs < 2 ^ 997 := Num.lt ⟨by show -MN ≤ one * other; omega, by show one * other ≤ MN; omega⟩
  obtain ⟨h7, r7, H7, a7, b7, e7⟩ := draw_of n (one * other + 1) H6 (by omega) (up_lt 1000 (by decide) (Num.lt ⟨by show -MN ≤ one * other + 1; omega, by show one * other + 1 ≤ MN; omega⟩))
  have m1 : mulOk one other = true := mulC c1.n997 c2.n997
  have m2 : mulOk one r1 = true := mulC c1.n997 (small_lt a1 (by omega))
  have m3 : mulOk other r2 = true := mulC c2.n997 (small_lt a2 (by omega))
  have m4 : mulOk (one * other) (1 + r5) = true := mulC pn (small_lt (by omega) (by omega))
  have q1 : 0 ≤ one * r1 ∧ one * r1 ≤ MS * 50 := ⟨Int.mul_nonneg (by omega) a1, Int.mul_le_mul c1.2 (by omega) a1 (by decide)⟩
  have q2 : 0 ≤ other * r2 ∧ other * r2 ≤ MS * 50 := ⟨Int.mul_nonneg (by omega) a2, Int.mul_le_mul c2.2 (by omega) a2 (by decide)⟩
  have q3 : 0 ≤ one * other * (1 + r5) ∧ one * other * (1 + r5) ≤ MQ * 5 := ⟨Int.mul_nonneg (by omega) (by omega), Int.mul_le_mul p2 (by omega) (by omega) (by decide)⟩
  refine ⟨h7, [.int (one * other - one - other + r3 - 2), .int (one * r1 + other * r2), .int (0 - r4), .int (one * other * (1 + r5) + (one * r1 + other * r2)), .int r6, .int 0, .int one, .int other, .int (one * other - one - other), .int (one * other - one - other - (one * r1 + other * r2)), .int (one * other - one - other - r7)], H7, ?_, ?_⟩
  · intro d hd
    have c11 := c1.2
    have c22 := c2.2
    generalize one * other * (1 + r5) = P5 at *
    generalize one * other = P at *
    generalize one * r1 = A at *
    generalize other * r2 = B at *
    simp only [List.mem_cons, List.not_mem_nil, or_false] at hd
    unfold Num
    rcases hd with rfl | rfl | rfl | rfl | rfl | rfl | rfl | rfl | rfl | rfl | rfl <;> exact ⟨_, rfl, by omega, by omega⟩
  · rw [u24]; unfold fn__law_numbers
    simp [L3.evSs, L3.evS.eq_1, L3.evS.eq_2, L3.evS.eq_3, L3.evS.eq_4, L3.evS.eq_5, L3.evS.eq_6, L3.evS.eq_9, L3.evS.eq_10, L3.evS.eq_11, L3.evS.eq_12, L3.evS.eq_13, L3.evS.eq_14, L3.evE.eq_1, L3.evE.eq_2, L3.evE.eq_3, L3.evE.eq_4, L3.evE.eq_5, L3.evE.eq_6, L3.evE.eq_7, L3.evE.eq_8, L3.evE.eq_9, L3.evE.eq_10, L3.evE.eq_11, L3.evE.eq_12, L3.evE.eq_13, L3.evE.eq_14, L3.evE.eq_15, L3.evE.eq_16, L3.evE.eq_18, L3.evE.eq_19, L3.evE.eq_20, L3.evE.eq_21, L3.evA, L3.evP, Law.evS_whlR, Law.evS_frR, Law.evE_lcR, Law.frR_nil, Law.frR_cons, Law.lcR_nil, Law.lcR_cons, L3.argOf, L3.Rs.bind, L3.opFin, L3.avDs, L3.avD, L3.vDs, L3.Op.keeps, L3.Op.run, L3.i1, L3.i2, L3.a1, L3.a2, L3.l1, L3.gd, L3.oB, L3.oI, L3.toB, L3.toI, L3.rdVar, L3.mvVar, L3.stVar, L3.stR, L3.stTg, L3.stVars, L3.stVarsO, L3.passA, L3.backA, L3.doCall, L3.cellOf, L3.start3, Law.outs1, Law.outs2, Law.outs3, Law.outs4, L3.resOf, L3.runFn, L3.keepB, L3.Ow.isB, L3.Ow.isOwn, L3.isTys, L3.isTy, L3.itFin, L3.ItK.run, L3.kRng1, L3.kRng2, L3.kSeq, L3.seqD, L3.seqD2, L3.kEnm, L3.enmD, Law.fit_of, Law.fit3, L3.noEr, L3.slFin, L3.slice3, L3.shE, L3.Tg.slots, L3.wipeE, L3.restE, L3.asB, Law.sz0, Law.sz1, Law.sz2, L3.rAdd3, L3.rLen3, L3.rLt3, L3.rIdx3, Law.at30, Law.at31, Law.at32, Law.at20, Law.at21, L3.isNone, Law.eqD_int, Law.md0, Law.md1, Law.md2, Law.md3, Law.md4, Law.md5, Law.md6, Law.md7, Law.md8, Law.md9, Law.md10, Law.md11, Law.md12, Law.md13, Law.md14, Law.md15, Law.md16, Law.md17, Law.md18, Law.md19, Law.md20, Law.md21, Law.md22, Law.md23, Law.md24, Law.md25, Law.md26, Law.md27, Law.md28, e1, e2, e3, e4, e5, e6, e7, m1, m2, m3, m4, pow60, mok60, MTT]
end Law

namespace Law
open PySem PySem.Spec PyProof.Rows L2 L3
def okc (c : Cell) : Prop := c = none ∨ ∃ d, c = some (.sh, d)
def okO (c : Cell) : Prop := c = none ∨ (∃ d, c = some (.sh, d)) ∨ ∃ d, c = some (.own, d)
theorem okc_sh {d : D} : okc (some (.sh, d)) := .inr ⟨_, rfl⟩
theorem okO_sh {d : D} : okO (some (.sh, d)) := .inr (.inl ⟨_, rfl⟩)
theorem okO_ow {d : D} : okO (some (.own, d)) := .inr (.inr ⟨_, rfl⟩)
theorem is_lent (n : Nat) (xs : List D) (h1 : pl (.lst xs) = true) (h2 : dp (.lst xs) ≤ n) : callD tb WN (n + 1) 15 [(false, .lst xs), (true, .lst xs)] = .ok (.bl true) false [none, some (.brs, .lst xs)] := by
  obtain ⟨n, rfl⟩ : ∃ m, n = m + 1 := ⟨n - 1, by simp [dp] at h2; omega⟩
  simp only [pl, Bool.and_eq_true, decide_eq_true_eq] at h1
  simp only [dp] at h2
  have e : lcR (callD tb WN (n + 1)) (mdOf tb) [2, 3] (.tp [2, 3]) L15_0c L15_0 (zipD xs xs) [] [some (.sh, .lst xs), some (.brs, .lst xs), none, none] = .ok (xs.map fun _ => .bl true) [some (.sh, .lst xs), some (.brs, .lst xs), none, none] := by
    rw [zip_self]
    have := lcR_map (C := callD tb WN (n + 1)) (md := mdOf tb) (vs := [2, 3]) (tg := .tp [2, 3]) (c := L15_0c) (e := L15_0) (g := fun _ => D.bl true) (en0 := [some (.sh, .lst xs), some (.brs, .lst xs), none, none]) (xs.map both) [] (by
      intro d hd
      obtain ⟨x, hx, rfl⟩ := List.mem_map.mp hd
      have hh := is_refl n x (pls_mem h1.1 x hx) (Nat.le_trans (dps_mem x hx) (by omega)) n (Nat.le_refl _)
      refine ⟨[some (.sh, .lst xs), some (.brs, .lst xs), some (.sh, x), some (.sh, x)], rfl, ?_, ⟨false, ?_⟩, rfl⟩
      · simp [L3.evSs, L3.evS.eq_1, L3.evS.eq_2, L3.evS.eq_3, L3.evS.eq_4, L3.evS.eq_5, L3.evS.eq_6, L3.evS.eq_9, L3.evS.eq_10, L3.evS.eq_11, L3.evS.eq_12, L3.evS.eq_13, L3.evS.eq_14, L3.evE.eq_1, L3.evE.eq_2, L3.evE.eq_3, L3.evE.eq_4, L3.evE.eq_5, L3.evE.eq_6, L3.evE.eq_7, L3.evE.eq_8, L3.evE.eq_9, L3.evE.eq_10, L3.evE.eq_11, L3.evE.eq_12, L3.evE.eq_13, L3.evE.eq_14, L3.evE.eq_15, L3.evE.eq_16, L3.evE.eq_18, L3.evE.eq_19, L3.evE.eq_20, L3.evE.eq_21, L3.evA, L3.evP, Law.evS_whlR, Law.evS_frR, Law.evE_lcR, Law.frR_nil, Law.frR_cons, Law.lcR_nil, Law.lcR_cons, L3.argOf, L3.Rs.bind, L3.opFin, L3.avDs, L3.avD, L3.vDs, L3.Op.keeps, L3.Op.run, L3.i1, L3.i2, L3.a1, L3.a2, L3.l1, L3.gd, L3.oB, L3.oI, L3.toB, L3.toI, L3.rdVar, L3.mvVar, L3.stVar, L3.stR, L3.stTg, L3.stVars, L3.stVarsO, L3.passA, L3.backA, L3.doCall, L3.cellOf, L3.start3, Law.outs1, Law.outs2, Law.outs3, Law.outs4, L3.resOf, L3.runFn, L3.keepB, L3.Ow.isB, L3.Ow.isOwn, L3.isTys, L3.isTy, L3.itFin, L3.ItK.run, L3.kRng1, L3.kRng2, L3.kSeq, L3.seqD, L3.seqD2, L3.kEnm, L3.enmD, Law.fit_of, Law.fit3, L3.noEr, L3.slFin, L3.slice3, L3.shE, L3.Tg.slots, L3.wipeE, L3.restE, L3.asB, Law.sz0, Law.sz1, Law.sz2, L3.rAdd3, L3.rLen3, L3.rLt3, L3.rIdx3, Law.at30, Law.at31, Law.at32, Law.at20, Law.at21, L3.isNone, Law.eqD_int, Law.md0, Law.md1, Law.md2, Law.md3, Law.md4, Law.md5, Law.md6, Law.md7, Law.md8, Law.md9, Law.md10, Law.md11, Law.md12, Law.md13, Law.md14, Law.md15, Law.md16, Law.md17, Law.md18, Law.md19, Law.md20, Law.md21, Law.md22, Law.md23, Law.md24, Law.md25, Law.md26, Law.md27, Law.md28, L15_0c]
      · simp [L3.evSs, L3.evS.eq_1, L3.evS.eq_2, L3.evS.eq_3, L3.evS.eq_4, L3.evS.eq_5, L3.evS.eq_6, L3.evS.eq_9, L3.evS.eq_10, L3.evS.eq_11, L3.evS.eq_12, L3.evS.eq_13, L3.evS.eq_14, L3.evE.eq_1, L3.evE.eq_2, L3.evE.eq_3, L3.evE.eq_4, L3.evE.eq_5, L3.evE.eq_6, L3.evE.eq_7, L3.evE.eq_8, L3.evE.eq_9, L3.evE.eq_10, L3.evE.eq_11, L3.evE.eq_12, L3.evE.eq_13, L3.evE.eq_14, L3.evE.eq_15, L3.evE.eq_16, L3.evE.eq_18, L3.evE.eq_19, L3.evE.eq_20, L3.evE.eq_21, L3.evA, L3.evP, Law.evS_whlR, Law.evS_frR, Law.evE_lcR, Law.frR_nil, Law.frR_cons, Law.lcR_nil, Law.lcR_cons, L3.argOf, L3.Rs.bind, L3.opFin, L3.avDs, L3.avD, L3.vDs, L3.Op.keeps, L3.Op.run, L3.i1, L3.i2, L3.a1, L3.a2, L3.l1, L3.gd, L3.oB, L3.oI, L3.toB, L3.toI, L3.rdVar, L3.mvVar, L3.stVar, L3.stR, L3.stTg, L3.stVars, L3.stVarsO, L3.passA, L3.backA, L3.doCall, L3.cellOf, L3.start3, Law.outs1, Law.outs2, Law.outs3, Law.outs4, L3.resOf, L3.runFn, L3.keepB, L3.Ow.isB, L3.Ow.isOwn, L3.isTys, L3.isTy, L3.itFin, L3.ItK.run, L3.kRng1, L3.kRng2, L3.kSeq, L3.seqD, L3.seqD2, L3.kEnm, L3.enmD, Law.fit_of, Law.fit3, L3.noEr, L3.slFin, L3.slice3, L3.shE, L3.Tg.slots, L3.wipeE, L3.restE, L3.asB, Law.sz0, Law.sz1, Law.sz2, L3.rAdd3, L3.rLen3, L3.rLt3, L3.rIdx3, Law.at30, Law.at31, Law.at32, Law.at20, Law.at21, L3.isNone, Law.eqD_int, Law.md0, Law.md1, Law.md2, Law.md3, Law.md4, Law.md5, Law.md6, Law.md7, Law.md8, Law.md9, Law.md10, Law.md11, Law.md12, Law.md13, Law.md14, Law.md15, Law.md16, Law.md17, Law.md18, Law.md19, Law.md20, Law.md21, Law.md22, Law.md23, Law.md24, Law.md25, Law.md26, Law.md27, Law.md28, L15_0, hh]) (by rw [sizeLine_eq]; simp; omega)
    rw [this]
    simp
  rw [u15]; unfold fn__law_is
  simp [L3.evSs, L3.evS.eq_1, L3.evS.eq_2, L3.evS.eq_3, L3.evS.eq_4, L3.evS.eq_5, L3.evS.eq_6, L3.evS.eq_9, L3.evS.eq_10, L3.evS.eq_11, L3.evS.eq_12, L3.evS.eq_13, L3.evS.eq_14, L3.evE.eq_1, L3.evE.eq_2, L3.evE.eq_3, L3.evE.eq_4, L3.evE.eq_5, L3.evE.eq_6, L3.evE.eq_7, L3.evE.eq_8, L3.evE.eq_9, L3.evE.eq_10, L3.evE.eq_11, L3.evE.eq_12, L3.evE.eq_13, L3.evE.eq_14, L3.evE.eq_15, L3.evE.eq_16, L3.evE.eq_18, L3.evE.eq_19, L3.evE.eq_20, L3.evE.eq_21, L3.evA, L3.evP, Law.evS_whlR, Law.evS_frR, Law.evE_lcR, L3.argOf, L3.Rs.bind, L3.opFin, L3.avDs, L3.avD, L3.vDs, L3.Op.keeps, L3.Op.run, L3.i1, L3.i2, L3.a1, L3.a2, L3.l1, L3.gd, L3.oB, L3.oI, L3.toB, L3.toI, L3.rdVar, L3.mvVar, L3.stVar, L3.stR, L3.stTg, L3.stVars, L3.stVarsO, L3.passA, L3.backA, L3.doCall, L3.cellOf, L3.start3, Law.outs1, Law.outs2, Law.outs3, Law.outs4, L3.resOf, L3.runFn, L3.keepB, L3.Ow.isB, L3.Ow.isOwn, L3.isTys, L3.isTy, L3.itFin, L3.ItK.run, L3.kRng1, L3.kRng2, L3.kSeq, L3.seqD, L3.seqD2, L3.kEnm, L3.enmD, Law.fit_of, Law.fit3, L3.noEr, L3.slFin, L3.slice3, L3.shE, L3.Tg.slots, L3.wipeE, L3.restE, L3.asB, Law.sz0, Law.sz1, Law.sz2, L3.rAdd3, L3.rLen3, L3.rLt3, L3.rIdx3, Law.at30, Law.at31, Law.at32, Law.at20, Law.at21, L3.isNone, Law.eqD_int, Law.md0, Law.md1, Law.md2, Law.md3, Law.md4, Law.md5, Law.md6, Law.md7, Law.md8, Law.md9, Law.md10, Law.md11, Law.md12, Law.md13, Law.md14, Law.md15, Law.md16, Law.md17, Law.md18, Law.md19, Law.md20, Law.md21, Law.md22, Law.md23, Law.md24, Law.md25, Law.md26, Law.md27, Law.md28, eqD_bl, kZip, e, asB_true, all_true]
/-- the other way about, what is due -/
theorem due_swap {one other number x y : Int} (s : Spl one other number x y) (h1 : 0 < one) (h2 : 0 < other) :
    dueL other one (y % one) (x + y / one * other) = [payD (y % one) (x + y / one * other), .int (waysI one y), intD y (mnI (en1 x y) (en2 one other x y)), intD y (mxI (en1 x y) (en2 one other x y)), .tup [.int (y % one), .int (x + y / one * other)]] := by
  have hd : (x + y / one * other) / other = y / one := by
    rw [Int.add_mul_ediv_right _ _ (by omega), Int.ediv_eq_zero_of_lt s.x0 s.x1, Int.zero_add]
  have e1 : en1 (y % one) (x + y / one * other) = en2 one other x y := en2_eq
  have e2 : en2 other one (y % one) (x + y / one * other) = en1 x y := by
    have e := Int.emod_add_mul_ediv y one
    have : en2 other one (y % one) (x + y / one * other) = y % one + y / one * one + (x + y / one * other) - y / one * other := by
      unfold en2; rw [hd]
    rw [this, Int.mul_comm (y / one) one]
    unfold en1
    generalize y / one * other = t
    omega
  have hy := s.sw0 h1
  have w : waysI other (x + y / one * other) = waysI one y := by
    unfold waysI; rw [hd]
    by_cases h : 0 ≤ y
    · rw [if_pos (hy.mpr h), if_pos h]
    · rw [if_neg (fun z => h (hy.mp z)), if_neg h]
  have i : ∀ v, intD (x + y / one * other) v = intD y v := fun v => by
    unfold intD
    by_cases h : 0 ≤ y
    · rw [if_pos (hy.mpr h), if_pos h]
    · rw [if_neg (fun z => h (hy.mp z)), if_neg h]
  have m1 : ∀ a b : Int, mnI a b = mnI b a := fun a b => by unfold mnI; split <;> split <;> omega
  have m2 : ∀ a b : Int, mxI a b = mxI b a := fun a b => by unfold mxI; split <;> split <;> omega
  unfold dueL
  rw [e1, e2, w, i, i, m1, m2]
theorem payD_ge {x y : Int} (h : 0 ≤ y) : payD x y = .tup [.int x, .int y] := if_pos h
theorem payD_lt {x y : Int} (h : ¬ 0 ≤ y) : payD x y = .non := if_neg h
theorem intD_pl (y v : Int) : pl (intD y v) = true ∧ dp (intD y v) = 0 := by unfold intD; split <;> exact ⟨rfl, rfl⟩
theorem payD_pl (x y : Int) : pl (payD x y) = true ∧ dp (payD x y) ≤ 1 := by unfold payD; split <;> exact ⟨rfl, by simp [dp, dps]⟩
theorem due_pl (one other x y : Int) : pl (.lst (dueL one other x y)) = true ∧ dp (.lst (dueL one other x y)) ≤ 2 := by
  have a := payD_pl x y
  have b := intD_pl y (mnI (en1 x y) (en2 one other x y))
  have c := intD_pl y (mxI (en1 x y) (en2 one other x y))
  unfold dueL
  generalize payD x y = d1 at *
  generalize intD y (mnI (en1 x y) (en2 one other x y)) = d2 at *
  generalize intD y (mxI (en1 x y) (en2 one other x y)) = d3 at *
  constructor
  · simp [pl, pls, a.1, b.1, c.1]
  · simp [dp, dps, b.2, c.2]; omega
theorem cut5 {a b c d e : D} : cut [a, b, c, d, e] (some 1) (some 4) = [b, c, d] := rfl
theorem cut54 {a b c d e : D} : cut [a, b, c, d, e] none (some 4) = [a, b, c, d] := rfl
theorem at50 {a b c d e : D} : atI [a, b, c, d, e] 0 = some a := rfl
def rgt (h : D) (one other : Int) (c3 c4 c5 : Cell) : En := [some (.brw, h), some (.sh, .int one), some (.sh, .int other), c3, c4, c5]
theorem rgt_turn (n : Nat) (h : D) {one other number : Int} (q : Qu one other number) (c3 c4 c5 : Cell) (k3 : okc c3) (k4 : okO c4) (k5 : okO c5) :
    ∃ c4' c5', okO c4' ∧ okO c5' ∧ ((stR (stTg (.nm 3) (.int number) false (rgt h one other c3 c4 c5))).bind fun _ en => evSs WN (callD tb WN (n + 4)) (mdOf tb) F25_0 en) = .ok .nx (rgt h one other (some (.sh, .int number)) c4' c5') := by
  obtain ⟨x, y, s⟩ := ex_spl q
  have s' := s.swap q.p1
  have e1 := c_due (n + 1) q s
  have e2 := c_told n q s
  have e3 := c_told n q.swap s'
  rw [due_swap s q.p1 q.p2] at e3
  have dp1 := due_pl one other x y
  have e4 := is_lent (n + 3) _ dp1.1 (by omega)
  have hy := s.sw0 q.p1
  have e5 : ∀ b : Bool, callD tb WN (n + 4) 15 [(false, .lst [.lst [.int (waysI one y), intD y (mnI (en1 x y) (en2 one other x y)), intD y (mxI (en1 x y) (en2 one other x y))], .bl b]), (false, .lst [.lst [.int (waysI one y), intD y (mnI (en1 x y) (en2 one other x y)), intD y (mxI (en1 x y) (en2 one other x y))], .bl b])] = .ok (.bl true) false [none, none] := fun b => by
    have b' := intD_pl y (mnI (en1 x y) (en2 one other x y))
    have c' := intD_pl y (mxI (en1 x y) (en2 one other x y))
    refine is_refl 3 _ ?_ ?_ (n + 3) (by omega)
    · generalize intD y (mnI (en1 x y) (en2 one other x y)) = d2 at *
      generalize intD y (mxI (en1 x y) (en2 one other x y)) = d3 at *
      simp [pl, pls, b'.1, c'.1]
    · generalize intD y (mnI (en1 x y) (en2 one other x y)) = d2 at *
      generalize intD y (mxI (en1 x y) (en2 one other x y)) = d3 at *
      simp [dp, dps, b'.2, c'.2]
  have m1 : mulOk one x = true := mulB 1000 (by decide) (by decide) (up_lt 1000 (by decide) q.c1.nlt) (up_lt 1000 (by decide) (s.xlt q.c2))
  have m2 : mulOk other y = true := mulB 1000 (by decide) (by decide) (up_lt 1000 (by decide) q.c2.nlt) (s.ylt q)
  have hs : one * x + other * y = number := by
    have := s.e
    rw [Int.mul_comm one, Int.mul_comm other]; omega
  unfold dueL at e1 e2 e4
  generalize intD y (mnI (en1 x y) (en2 one other x y)) = d2 at *
  generalize intD y (mxI (en1 x y) (en2 one other x y)) = d3 at *
  generalize waysI one y = d4 at *
  by_cases h0 : 0 ≤ y
  · rw [payD_ge h0] at e1 e2 e4
    rw [payD_ge (hy.mpr h0)] at e3
    generalize x + y / one * other = y' at *
    generalize y % one = x' at *
    have e6 := e5 false
    refine ⟨some (.sh, .lst [.tup [.int x, .int y], .int d4, d2, d3, .tup [.int x, .int y]]), some (.own, .lst [.tup [.int x', .int y'], .int d4, d2, d3, .tup [.int x', .int y']]), okO_sh, okO_ow, ?_⟩
    rcases k3 with rfl | ⟨_, rfl⟩ <;> rcases k4 with rfl | ⟨_, rfl⟩ | ⟨_, rfl⟩ <;> rcases k5 with rfl | ⟨_, rfl⟩ | ⟨_, rfl⟩ <;> simp [L3.evSs, L3.evS.eq_1, L3.evS.eq_2, L3.evS.eq_3, L3.evS.eq_4, L3.evS.eq_5, L3.evS.eq_6, L3.evS.eq_9, L3.evS.eq_10, L3.evS.eq_11, L3.evS.eq_12, L3.evS.eq_13, L3.evS.eq_14, L3.evE.eq_1, L3.evE.eq_2, L3.evE.eq_3, L3.evE.eq_4, L3.evE.eq_5, L3.evE.eq_6, L3.evE.eq_7, L3.evE.eq_8, L3.evE.eq_9, L3.evE.eq_10, L3.evE.eq_11, L3.evE.eq_12, L3.evE.eq_13, L3.evE.eq_14, L3.evE.eq_15, L3.evE.eq_16, L3.evE.eq_18, L3.evE.eq_19, L3.evE.eq_20, L3.evE.eq_21, L3.evA, L3.evP, Law.evS_whlR, Law.evS_frR, Law.evE_lcR, Law.frR_nil, Law.frR_cons, Law.lcR_nil, Law.lcR_cons, L3.argOf, L3.Rs.bind, L3.opFin, L3.avDs, L3.avD, L3.vDs, L3.Op.keeps, L3.Op.run, L3.i1, L3.i2, L3.a1, L3.a2, L3.l1, L3.gd, L3.oB, L3.oI, L3.toB, L3.toI, L3.rdVar, L3.mvVar, L3.stVar, L3.stR, L3.stTg, L3.stVars, L3.stVarsO, L3.passA, L3.backA, L3.doCall, L3.cellOf, L3.start3, Law.outs1, Law.outs2, Law.outs3, Law.outs4, L3.resOf, L3.runFn, L3.keepB, L3.Ow.isB, L3.Ow.isOwn, L3.isTys, L3.isTy, L3.itFin, L3.ItK.run, L3.kRng1, L3.kRng2, L3.kSeq, L3.seqD, L3.seqD2, L3.kEnm, L3.enmD, Law.fit_of, Law.fit3, L3.noEr, L3.slFin, L3.slice3, L3.shE, L3.Tg.slots, L3.wipeE, L3.restE, L3.asB, Law.sz0, Law.sz1, Law.sz2, L3.rAdd3, L3.rLen3, L3.rLt3, L3.rIdx3, Law.at30, Law.at31, Law.at32, Law.at20, Law.at21, L3.isNone, Law.eqD_int, Law.md0, Law.md1, Law.md2, Law.md3, Law.md4, Law.md5, Law.md6, Law.md7, Law.md8, Law.md9, Law.md10, Law.md11, Law.md12, Law.md13, Law.md14, Law.md15, Law.md16, Law.md17, Law.md18, Law.md19, Law.md20, Law.md21, Law.md22, Law.md23, Law.md24, Law.md25, Law.md26, Law.md27, Law.md28, F25_0, rgt, e1, e2, e3, e4, e6, m1, m2, hs, cut5, at50, eqD_bl]
  · rw [payD_lt h0] at e1 e2 e4
    rw [payD_lt (fun z => h0 (hy.mp z))] at e3
    generalize x + y / one * other = y' at *
    generalize y % one = x' at *
    have e6 := e5 true
    refine ⟨some (.sh, .lst [.non, .int d4, d2, d3, .tup [.int x, .int y]]), some (.own, .lst [.non, .int d4, d2, d3, .tup [.int x', .int y']]), okO_sh, okO_ow, ?_⟩
    rcases k3 with rfl | ⟨_, rfl⟩ <;> rcases k4 with rfl | ⟨_, rfl⟩ | ⟨_, rfl⟩ <;> rcases k5 with rfl | ⟨_, rfl⟩ | ⟨_, rfl⟩ <;> simp [L3.evSs, L3.evS.eq_1, L3.evS.eq_2, L3.evS.eq_3, L3.evS.eq_4, L3.evS.eq_5, L3.evS.eq_6, L3.evS.eq_9, L3.evS.eq_10, L3.evS.eq_11, L3.evS.eq_12, L3.evS.eq_13, L3.evS.eq_14, L3.evE.eq_1, L3.evE.eq_2, L3.evE.eq_3, L3.evE.eq_4, L3.evE.eq_5, L3.evE.eq_6, L3.evE.eq_7, L3.evE.eq_8, L3.evE.eq_9, L3.evE.eq_10, L3.evE.eq_11, L3.evE.eq_12, L3.evE.eq_13, L3.evE.eq_14, L3.evE.eq_15, L3.evE.eq_16, L3.evE.eq_18, L3.evE.eq_19, L3.evE.eq_20, L3.evE.eq_21, L3.evA, L3.evP, Law.evS_whlR, Law.evS_frR, Law.evE_lcR, Law.frR_nil, Law.frR_cons, Law.lcR_nil, Law.lcR_cons, L3.argOf, L3.Rs.bind, L3.opFin, L3.avDs, L3.avD, L3.vDs, L3.Op.keeps, L3.Op.run, L3.i1, L3.i2, L3.a1, L3.a2, L3.l1, L3.gd, L3.oB, L3.oI, L3.toB, L3.toI, L3.rdVar, L3.mvVar, L3.stVar, L3.stR, L3.stTg, L3.stVars, L3.stVarsO, L3.passA, L3.backA, L3.doCall, L3.cellOf, L3.start3, Law.outs1, Law.outs2, Law.outs3, Law.outs4, L3.resOf, L3.runFn, L3.keepB, L3.Ow.isB, L3.Ow.isOwn, L3.isTys, L3.isTy, L3.itFin, L3.ItK.run, L3.kRng1, L3.kRng2, L3.kSeq, L3.seqD, L3.seqD2, L3.kEnm, L3.enmD, Law.fit_of, Law.fit3, L3.noEr, L3.slFin, L3.slice3, L3.shE, L3.Tg.slots, L3.wipeE, L3.restE, L3.asB, Law.sz0, Law.sz1, Law.sz2, L3.rAdd3, L3.rLen3, L3.rLt3, L3.rIdx3, Law.at30, Law.at31, Law.at32, Law.at20, Law.at21, L3.isNone, Law.eqD_int, Law.md0, Law.md1, Law.md2, Law.md3, Law.md4, Law.md5, Law.md6, Law.md7, Law.md8, Law.md9, Law.md10, Law.md11, Law.md12, Law.md13, Law.md14, Law.md15, Law.md16, Law.md17, Law.md18, Law.md19, Law.md20, Law.md21, Law.md22, Law.md23, Law.md24, Law.md25, Law.md26, Law.md27, Law.md28, F25_0, rgt, e1, e2, e3, e4, e6, m1, m2, hs, cut5, at50, eqD_bl]
end Law

namespace Law
open PySem PySem.Spec PyProof.Rows L2 L3
theorem c_right (n : Nat) {h : D} (H : Hd h) {one other : Int} (c1 : Coin one) (c2 : Coin other) (co : Co one other) : ∃ h', Hd h' ∧ callD tb WN (n + 5) 25 [(true, h), (false, .int one), (false, .int other)] = .ok (.bl true) false [some (.brw, h'), none, none] := by
  obtain ⟨h1, xs, H1, hx, e0⟩ := c_numbers (n + 2) H c1 c2
  refine ⟨h1, H1, ?_⟩
  let en0 : En := rgt h one other none none none
  let en1 : En := rgt h1 one other none none none
  have q0 : en0[0]? = some (some (.brw, h)) := rfl
  have q1 : en0[1]? = some (some (.sh, .int one)) := rfl
  have q2 : en0[2]? = some (some (.sh, .int other)) := rfl
  have e1 : evE (callD tb WN (n + 4)) (mdOf tb) (.call 24 (.cons (.pk 0) (.cons (.pk 1) (.cons (.pk 2) .nil)))) en0 = .ok (.lst xs, true) en1 :=
    evE_callU (evA_consU (arg_pk q0) (evA_consU (arg_pk q1) (evA_consU (arg_pk q2) evA_nilU))) rfl e0 rfl
  obtain ⟨en', f1, c3, c4, c5, k3, k4, k5, f2⟩ := frR_inv (w := WN) (C := callD tb WN (n + 4)) (md := mdOf tb) (tg := .nm 3) (b := F25_0) (fun en => ∃ c3 c4 c5, okc c3 ∧ okO c4 ∧ okO c5 ∧ en = rgt h1 one other c3 c4 c5) xs en1 ⟨_, _, _, .inl rfl, .inl rfl, .inl rfl, rfl⟩ (by
    intro d hd en ⟨c3, c4, c5, k3, k4, k5, e⟩
    subst e
    obtain ⟨i, rfl, hi⟩ := hx d hd
    obtain ⟨c4', c5', k4', k5', e⟩ := rgt_turn n h1 ⟨c1, c2, co, hi⟩ c3 c4 c5 k3 k4 k5
    exact ⟨_, e, _, _, _, okc_sh, k4', k5', rfl⟩)
  subst f2
  have s1 : Ps WN (callD tb WN (n + 4)) (mdOf tb) en0 (.fr (.nm 3) .seq (.cons (.call 24 (.cons (.pk 0) (.cons (.pk 1) (.cons (.pk 2) .nil)))) .nil) F25_0) (rgt h1 one other c3 c4 c5) := by
    unfold Ps
    rw [evS_frR, evA_consU (arg_e e1) evA_nilU]
    have ei : ∀ en : En, itFin .seq [.v (.lst xs)] en = .ok xs en := fun en => rfl
    simp only [Rs.bind, ei]
    exact f1
  have e5 := (ss_step s1).trans (ss_ret (ss := .nil) (pe_cst (d := .bl true)))
  rw [u25]
  exact (congrArg (resOf 3) e5).trans rfl
/-! ### errors -/
def Bad (a b : D) : Prop := ∀ n, callD tb WN (n + 2) 3 [(false, a), (false, b)] = erC
theorem not_co {a b g : Int} (h1 : g ∣ a) (h2 : g ∣ b) (hg : 2 ≤ g) : ¬ Co a b := fun c => by
  have := Int.le_of_dvd (by decide) (c g h1 h2)
  omega
theorem bad_gcd {a b g : Int} (ha : 1 ≤ a) (hb : 1 ≤ b) (h1 : g ∣ a) (h2 : g ∣ b) (hg : 2 ≤ g) : Bad (.int a) (.int b) := fun n => by
  by_cases ca : a ≤ MS
  · by_cases cb : b ≤ MS
    · exact c_check_gcd n ⟨ha, ca⟩ ⟨hb, cb⟩ (not_co h1 h2 hg)
    · exact c_check_r n ⟨ha, ca⟩ ⟨rfl, fun i e => by cases e; exact fun z => cb z.2⟩
  · exact c_check_l n ⟨rfl, fun i e => by cases e; exact fun z => ca z.2⟩ rfl
theorem e_bad (f : Nat) (n : Nat) {a b : D} (x : D) (h : Bad a b) (hf : f = 7 ∨ f = 8 ∨ f = 9 ∨ f = 10 ∨ f = 11) : callD tb WN (n + 3) f [(false, a), (false, b), (false, x)] = .er ⟨2, ["at"], [.int (-1)]⟩ [none, none, none] := by
  have e := h n
  unfold erC at e
  rcases hf with rfl | rfl | rfl | rfl | rfl
  · rw [u7]; unfold fn_two_pay; simp [L3.evSs, L3.evS.eq_1, L3.evS.eq_2, L3.evS.eq_3, L3.evS.eq_4, L3.evS.eq_5, L3.evS.eq_6, L3.evS.eq_9, L3.evS.eq_10, L3.evS.eq_11, L3.evS.eq_12, L3.evS.eq_13, L3.evS.eq_14, L3.evE.eq_1, L3.evE.eq_2, L3.evE.eq_3, L3.evE.eq_4, L3.evE.eq_5, L3.evE.eq_6, L3.evE.eq_7, L3.evE.eq_8, L3.evE.eq_9, L3.evE.eq_10, L3.evE.eq_11, L3.evE.eq_12, L3.evE.eq_13, L3.evE.eq_14, L3.evE.eq_15, L3.evE.eq_16, L3.evE.eq_18, L3.evE.eq_19, L3.evE.eq_20, L3.evE.eq_21, L3.evA, L3.evP, Law.evS_whlR, Law.evS_frR, Law.evE_lcR, Law.frR_nil, Law.frR_cons, Law.lcR_nil, Law.lcR_cons, L3.argOf, L3.Rs.bind, L3.opFin, L3.avDs, L3.avD, L3.vDs, L3.Op.keeps, L3.Op.run, L3.i1, L3.i2, L3.a1, L3.a2, L3.l1, L3.gd, L3.oB, L3.oI, L3.toB, L3.toI, L3.rdVar, L3.mvVar, L3.stVar, L3.stR, L3.stTg, L3.stVars, L3.stVarsO, L3.passA, L3.backA, L3.doCall, L3.cellOf, L3.start3, Law.outs1, Law.outs2, Law.outs3, Law.outs4, L3.resOf, L3.runFn, L3.keepB, L3.Ow.isB, L3.Ow.isOwn, L3.isTys, L3.isTy, L3.itFin, L3.ItK.run, L3.kRng1, L3.kRng2, L3.kSeq, L3.seqD, L3.seqD2, L3.kEnm, L3.enmD, Law.fit_of, Law.fit3, L3.noEr, L3.slFin, L3.slice3, L3.shE, L3.Tg.slots, L3.wipeE, L3.restE, L3.asB, Law.sz0, Law.sz1, Law.sz2, L3.rAdd3, L3.rLen3, L3.rLt3, L3.rIdx3, Law.at30, Law.at31, Law.at32, Law.at20, Law.at21, L3.isNone, Law.eqD_int, Law.md0, Law.md1, Law.md2, Law.md3, Law.md4, Law.md5, Law.md6, Law.md7, Law.md8, Law.md9, Law.md10, Law.md11, Law.md12, Law.md13, Law.md14, Law.md15, Law.md16, Law.md17, Law.md18, Law.md19, Law.md20, Law.md21, Law.md22, Law.md23, Law.md24, Law.md25, Law.md26, Law.md27, Law.md28, e]
  · rw [u8]; unfold fn_two_ways; simp [L3.evSs, L3.evS.eq_1, L3.evS.eq_2, L3.evS.eq_3, L3.evS.eq_4, L3.evS.eq_5, L3.evS.eq_6, L3.evS.eq_9, L3.evS.eq_10, L3.evS.eq_11, L3.evS.eq_12, L3.evS.eq_13, L3.evS.eq_14, L3.evE.eq_1, L3.evE.eq_2, L3.evE.eq_3, L3.evE.eq_4, L3.evE.eq_5, L3.evE.eq_6, L3.evE.eq_7, L3.evE.eq_8, L3.evE.eq_9, L3.evE.eq_10, L3.evE.eq_11, L3.evE.eq_12, L3.evE.eq_13, L3.evE.eq_14, L3.evE.eq_15, L3.evE.eq_16, L3.evE.eq_18, L3.evE.eq_19, L3.evE.eq_20, L3.evE.eq_21, L3.evA, L3.evP, Law.evS_whlR, Law.evS_frR, Law.evE_lcR, Law.frR_nil, Law.frR_cons, Law.lcR_nil, Law.lcR_cons, L3.argOf, L3.Rs.bind, L3.opFin, L3.avDs, L3.avD, L3.vDs, L3.Op.keeps, L3.Op.run, L3.i1, L3.i2, L3.a1, L3.a2, L3.l1, L3.gd, L3.oB, L3.oI, L3.toB, L3.toI, L3.rdVar, L3.mvVar, L3.stVar, L3.stR, L3.stTg, L3.stVars, L3.stVarsO, L3.passA, L3.backA, L3.doCall, L3.cellOf, L3.start3, Law.outs1, Law.outs2, Law.outs3, Law.outs4, L3.resOf, L3.runFn, L3.keepB, L3.Ow.isB, L3.Ow.isOwn, L3.isTys, L3.isTy, L3.itFin, L3.ItK.run, L3.kRng1, L3.kRng2, L3.kSeq, L3.seqD, L3.seqD2, L3.kEnm, L3.enmD, Law.fit_of, Law.fit3, L3.noEr, L3.slFin, L3.slice3, L3.shE, L3.Tg.slots, L3.wipeE, L3.restE, L3.asB, Law.sz0, Law.sz1, Law.sz2, L3.rAdd3, L3.rLen3, L3.rLt3, L3.rIdx3, Law.at30, Law.at31, Law.at32, Law.at20, Law.at21, L3.isNone, Law.eqD_int, Law.md0, Law.md1, Law.md2, Law.md3, Law.md4, Law.md5, Law.md6, Law.md7, Law.md8, Law.md9, Law.md10, Law.md11, Law.md12, Law.md13, Law.md14, Law.md15, Law.md16, Law.md17, Law.md18, Law.md19, Law.md20, Law.md21, Law.md22, Law.md23, Law.md24, Law.md25, Law.md26, Law.md27, Law.md28, e]
  · rw [u9]; unfold fn_two_fewest; simp [L3.evSs, L3.evS.eq_1, L3.evS.eq_2, L3.evS.eq_3, L3.evS.eq_4, L3.evS.eq_5, L3.evS.eq_6, L3.evS.eq_9, L3.evS.eq_10, L3.evS.eq_11, L3.evS.eq_12, L3.evS.eq_13, L3.evS.eq_14, L3.evE.eq_1, L3.evE.eq_2, L3.evE.eq_3, L3.evE.eq_4, L3.evE.eq_5, L3.evE.eq_6, L3.evE.eq_7, L3.evE.eq_8, L3.evE.eq_9, L3.evE.eq_10, L3.evE.eq_11, L3.evE.eq_12, L3.evE.eq_13, L3.evE.eq_14, L3.evE.eq_15, L3.evE.eq_16, L3.evE.eq_18, L3.evE.eq_19, L3.evE.eq_20, L3.evE.eq_21, L3.evA, L3.evP, Law.evS_whlR, Law.evS_frR, Law.evE_lcR, Law.frR_nil, Law.frR_cons, Law.lcR_nil, Law.lcR_cons, L3.argOf, L3.Rs.bind, L3.opFin, L3.avDs, L3.avD, L3.vDs, L3.Op.keeps, L3.Op.run, L3.i1, L3.i2, L3.a1, L3.a2, L3.l1, L3.gd, L3.oB, L3.oI, L3.toB, L3.toI, L3.rdVar, L3.mvVar, L3.stVar, L3.stR, L3.stTg, L3.stVars, L3.stVarsO, L3.passA, L3.backA, L3.doCall, L3.cellOf, L3.start3, Law.outs1, Law.outs2, Law.outs3, Law.outs4, L3.resOf, L3.runFn, L3.keepB, L3.Ow.isB, L3.Ow.isOwn, L3.isTys, L3.isTy, L3.itFin, L3.ItK.run, L3.kRng1, L3.kRng2, L3.kSeq, L3.seqD, L3.seqD2, L3.kEnm, L3.enmD, Law.fit_of, Law.fit3, L3.noEr, L3.slFin, L3.slice3, L3.shE, L3.Tg.slots, L3.wipeE, L3.restE, L3.asB, Law.sz0, Law.sz1, Law.sz2, L3.rAdd3, L3.rLen3, L3.rLt3, L3.rIdx3, Law.at30, Law.at31, Law.at32, Law.at20, Law.at21, L3.isNone, Law.eqD_int, Law.md0, Law.md1, Law.md2, Law.md3, Law.md4, Law.md5, Law.md6, Law.md7, Law.md8, Law.md9, Law.md10, Law.md11, Law.md12, Law.md13, Law.md14, Law.md15, Law.md16, Law.md17, Law.md18, Law.md19, Law.md20, Law.md21, Law.md22, Law.md23, Law.md24, Law.md25, Law.md26, Law.md27, Law.md28, e]
  · rw [u10]; unfold fn_two_most; simp [L3.evSs, L3.evS.eq_1, L3.evS.eq_2, L3.evS.eq_3, L3.evS.eq_4, L3.evS.eq_5, L3.evS.eq_6, L3.evS.eq_9, L3.evS.eq_10, L3.evS.eq_11, L3.evS.eq_12, L3.evS.eq_13, L3.evS.eq_14, L3.evE.eq_1, L3.evE.eq_2, L3.evE.eq_3, L3.evE.eq_4, L3.evE.eq_5, L3.evE.eq_6, L3.evE.eq_7, L3.evE.eq_8, L3.evE.eq_9, L3.evE.eq_10, L3.evE.eq_11, L3.evE.eq_12, L3.evE.eq_13, L3.evE.eq_14, L3.evE.eq_15, L3.evE.eq_16, L3.evE.eq_18, L3.evE.eq_19, L3.evE.eq_20, L3.evE.eq_21, L3.evA, L3.evP, Law.evS_whlR, Law.evS_frR, Law.evE_lcR, Law.frR_nil, Law.frR_cons, Law.lcR_nil, Law.lcR_cons, L3.argOf, L3.Rs.bind, L3.opFin, L3.avDs, L3.avD, L3.vDs, L3.Op.keeps, L3.Op.run, L3.i1, L3.i2, L3.a1, L3.a2, L3.l1, L3.gd, L3.oB, L3.oI, L3.toB, L3.toI, L3.rdVar, L3.mvVar, L3.stVar, L3.stR, L3.stTg, L3.stVars, L3.stVarsO, L3.passA, L3.backA, L3.doCall, L3.cellOf, L3.start3, Law.outs1, Law.outs2, Law.outs3, Law.outs4, L3.resOf, L3.runFn, L3.keepB, L3.Ow.isB, L3.Ow.isOwn, L3.isTys, L3.isTy, L3.itFin, L3.ItK.run, L3.kRng1, L3.kRng2, L3.kSeq, L3.seqD, L3.seqD2, L3.kEnm, L3.enmD, Law.fit_of, Law.fit3, L3.noEr, L3.slFin, L3.slice3, L3.shE, L3.Tg.slots, L3.wipeE, L3.restE, L3.asB, Law.sz0, Law.sz1, Law.sz2, L3.rAdd3, L3.rLen3, L3.rLt3, L3.rIdx3, Law.at30, Law.at31, Law.at32, Law.at20, Law.at21, L3.isNone, Law.eqD_int, Law.md0, Law.md1, Law.md2, Law.md3, Law.md4, Law.md5, Law.md6, Law.md7, Law.md8, Law.md9, Law.md10, Law.md11, Law.md12, Law.md13, Law.md14, Law.md15, Law.md16, Law.md17, Law.md18, Law.md19, Law.md20, Law.md21, Law.md22, Law.md23, Law.md24, Law.md25, Law.md26, Law.md27, Law.md28, e]
  · rw [u11]; unfold fn_two_signed; simp [L3.evSs, L3.evS.eq_1, L3.evS.eq_2, L3.evS.eq_3, L3.evS.eq_4, L3.evS.eq_5, L3.evS.eq_6, L3.evS.eq_9, L3.evS.eq_10, L3.evS.eq_11, L3.evS.eq_12, L3.evS.eq_13, L3.evS.eq_14, L3.evE.eq_1, L3.evE.eq_2, L3.evE.eq_3, L3.evE.eq_4, L3.evE.eq_5, L3.evE.eq_6, L3.evE.eq_7, L3.evE.eq_8, L3.evE.eq_9, L3.evE.eq_10, L3.evE.eq_11, L3.evE.eq_12, L3.evE.eq_13, L3.evE.eq_14, L3.evE.eq_15, L3.evE.eq_16, L3.evE.eq_18, L3.evE.eq_19, L3.evE.eq_20, L3.evE.eq_21, L3.evA, L3.evP, Law.evS_whlR, Law.evS_frR, Law.evE_lcR, Law.frR_nil, Law.frR_cons, Law.lcR_nil, Law.lcR_cons, L3.argOf, L3.Rs.bind, L3.opFin, L3.avDs, L3.avD, L3.vDs, L3.Op.keeps, L3.Op.run, L3.i1, L3.i2, L3.a1, L3.a2, L3.l1, L3.gd, L3.oB, L3.oI, L3.toB, L3.toI, L3.rdVar, L3.mvVar, L3.stVar, L3.stR, L3.stTg, L3.stVars, L3.stVarsO, L3.passA, L3.backA, L3.doCall, L3.cellOf, L3.start3, Law.outs1, Law.outs2, Law.outs3, Law.outs4, L3.resOf, L3.runFn, L3.keepB, L3.Ow.isB, L3.Ow.isOwn, L3.isTys, L3.isTy, L3.itFin, L3.ItK.run, L3.kRng1, L3.kRng2, L3.kSeq, L3.seqD, L3.seqD2, L3.kEnm, L3.enmD, Law.fit_of, Law.fit3, L3.noEr, L3.slFin, L3.slice3, L3.shE, L3.Tg.slots, L3.wipeE, L3.restE, L3.asB, Law.sz0, Law.sz1, Law.sz2, L3.rAdd3, L3.rLen3, L3.rLt3, L3.rIdx3, Law.at30, Law.at31, Law.at32, Law.at20, Law.at21, L3.isNone, Law.eqD_int, Law.md0, Law.md1, Law.md2, Law.md3, Law.md4, Law.md5, Law.md6, Law.md7, Law.md8, Law.md9, Law.md10, Law.md11, Law.md12, Law.md13, Law.md14, Law.md15, Law.md16, Law.md17, Law.md18, Law.md19, Law.md20, Law.md21, Law.md22, Law.md23, Law.md24, Law.md25, Law.md26, Law.md27, Law.md28, e]
theorem e_num (f : Nat) (n : Nat) {a b : Int} {x : D} (h1 : Coin a) (h2 : Coin b) (co : Co a b) (h : NoN x) (hf : f = 7 ∨ f = 8 ∨ f = 9 ∨ f = 10 ∨ f = 11) : callD tb WN (n + 3) f [(false, .int a), (false, .int b), (false, x)] = .er ⟨1, [], []⟩ [none, none, none] := by
  have e := c_check_two n h1 h2 co
  have e2 := c_check_nonum n h
  unfold erN at e2
  rcases hf with rfl | rfl | rfl | rfl | rfl
  · rw [u7]; unfold fn_two_pay; simp [L3.evSs, L3.evS.eq_1, L3.evS.eq_2, L3.evS.eq_3, L3.evS.eq_4, L3.evS.eq_5, L3.evS.eq_6, L3.evS.eq_9, L3.evS.eq_10, L3.evS.eq_11, L3.evS.eq_12, L3.evS.eq_13, L3.evS.eq_14, L3.evE.eq_1, L3.evE.eq_2, L3.evE.eq_3, L3.evE.eq_4, L3.evE.eq_5, L3.evE.eq_6, L3.evE.eq_7, L3.evE.eq_8, L3.evE.eq_9, L3.evE.eq_10, L3.evE.eq_11, L3.evE.eq_12, L3.evE.eq_13, L3.evE.eq_14, L3.evE.eq_15, L3.evE.eq_16, L3.evE.eq_18, L3.evE.eq_19, L3.evE.eq_20, L3.evE.eq_21, L3.evA, L3.evP, Law.evS_whlR, Law.evS_frR, Law.evE_lcR, Law.frR_nil, Law.frR_cons, Law.lcR_nil, Law.lcR_cons, L3.argOf, L3.Rs.bind, L3.opFin, L3.avDs, L3.avD, L3.vDs, L3.Op.keeps, L3.Op.run, L3.i1, L3.i2, L3.a1, L3.a2, L3.l1, L3.gd, L3.oB, L3.oI, L3.toB, L3.toI, L3.rdVar, L3.mvVar, L3.stVar, L3.stR, L3.stTg, L3.stVars, L3.stVarsO, L3.passA, L3.backA, L3.doCall, L3.cellOf, L3.start3, Law.outs1, Law.outs2, Law.outs3, Law.outs4, L3.resOf, L3.runFn, L3.keepB, L3.Ow.isB, L3.Ow.isOwn, L3.isTys, L3.isTy, L3.itFin, L3.ItK.run, L3.kRng1, L3.kRng2, L3.kSeq, L3.seqD, L3.seqD2, L3.kEnm, L3.enmD, Law.fit_of, Law.fit3, L3.noEr, L3.slFin, L3.slice3, L3.shE, L3.Tg.slots, L3.wipeE, L3.restE, L3.asB, Law.sz0, Law.sz1, Law.sz2, L3.rAdd3, L3.rLen3, L3.rLt3, L3.rIdx3, Law.at30, Law.at31, Law.at32, Law.at20, Law.at21, L3.isNone, Law.eqD_int, Law.md0, Law.md1, Law.md2, Law.md3, Law.md4, Law.md5, Law.md6, Law.md7, Law.md8, Law.md9, Law.md10, Law.md11, Law.md12, Law.md13, Law.md14, Law.md15, Law.md16, Law.md17, Law.md18, Law.md19, Law.md20, Law.md21, Law.md22, Law.md23, Law.md24, Law.md25, Law.md26, Law.md27, Law.md28, e, e2]
  · rw [u8]; unfold fn_two_ways; simp [L3.evSs, L3.evS.eq_1, L3.evS.eq_2, L3.evS.eq_3, L3.evS.eq_4, L3.evS.eq_5, L3.evS.eq_6, L3.evS.eq_9, L3.evS.eq_10, L3.evS.eq_11, L3.evS.eq_12, L3.evS.eq_13, L3.evS.eq_14, L3.evE.eq_1, L3.evE.eq_2, L3.evE.eq_3, L3.evE.eq_4, L3.evE.eq_5, L3.evE.eq_6, L3.evE.eq_7, L3.evE.eq_8, L3.evE.eq_9, L3.evE.eq_10, L3.evE.eq_11, L3.evE.eq_12, L3.evE.eq_13, L3.evE.eq_14, L3.evE.eq_15, L3.evE.eq_16, L3.evE.eq_18, L3.evE.eq_19, L3.evE.eq_20, L3.evE.eq_21, L3.evA, L3.evP, Law.evS_whlR, Law.evS_frR, Law.evE_lcR, Law.frR_nil, Law.frR_cons, Law.lcR_nil, Law.lcR_cons, L3.argOf, L3.Rs.bind, L3.opFin, L3.avDs, L3.avD, L3.vDs, L3.Op.keeps, L3.Op.run, L3.i1, L3.i2, L3.a1, L3.a2, L3.l1, L3.gd, L3.oB, L3.oI, L3.toB, L3.toI, L3.rdVar, L3.mvVar, L3.stVar, L3.stR, L3.stTg, L3.stVars, L3.stVarsO, L3.passA, L3.backA, L3.doCall, L3.cellOf, L3.start3, Law.outs1, Law.outs2, Law.outs3, Law.outs4, L3.resOf, L3.runFn, L3.keepB, L3.Ow.isB, L3.Ow.isOwn, L3.isTys, L3.isTy, L3.itFin, L3.ItK.run, L3.kRng1, L3.kRng2, L3.kSeq, L3.seqD, L3.seqD2, L3.kEnm, L3.enmD, Law.fit_of, Law.fit3, L3.noEr, L3.slFin, L3.slice3, L3.shE, L3.Tg.slots, L3.wipeE, L3.restE, L3.asB, Law.sz0, Law.sz1, Law.sz2, L3.rAdd3, L3.rLen3, L3.rLt3, L3.rIdx3, Law.at30, Law.at31, Law.at32, Law.at20, Law.at21, L3.isNone, Law.eqD_int, Law.md0, Law.md1, Law.md2, Law.md3, Law.md4, Law.md5, Law.md6, Law.md7, Law.md8, Law.md9, Law.md10, Law.md11, Law.md12, Law.md13, Law.md14, Law.md15, Law.md16, Law.md17, Law.md18, Law.md19, Law.md20, Law.md21, Law.md22, Law.md23, Law.md24, Law.md25, Law.md26, Law.md27, Law.md28, e, e2]
  · rw [u9]; unfold fn_two_fewest; simp [L3.evSs, L3.evS.eq_1, L3.evS.eq_2, L3.evS.eq_3, L3.evS.eq_4, L3.evS.eq_5, L3.evS.eq_6, L3.evS.eq_9, L3.evS.eq_10, L3.evS.eq_11, L3.evS.eq_12, L3.evS.eq_13, L3.evS.eq_14, L3.evE.eq_1, L3.evE.eq_2, L3.evE.eq_3, L3.evE.eq_4, L3.evE.eq_5, L3.evE.eq_6, L3.evE.eq_7, L3.evE.eq_8, L3.evE.eq_9, L3.evE.eq_10, L3.evE.eq_11, L3.evE.eq_12, L3.evE.eq_13, L3.evE.eq_14, L3.evE.eq_15, L3.evE.eq_16, L3.evE.eq_18, L3.evE.eq_19, L3.evE.eq_20, L3.evE.eq_21, L3.evA, L3.evP, Law.evS_whlR, Law.evS_frR, Law.evE_lcR, Law.frR_nil, Law.frR_cons, Law.lcR_nil, Law.lcR_cons, L3.argOf, L3.Rs.bind, L3.opFin, L3.avDs, L3.avD, L3.vDs, L3.Op.keeps, L3.Op.run, L3.i1, L3.i2, L3.a1, L3.a2, L3.l1, L3.gd, L3.oB, L3.oI, L3.toB, L3.toI, L3.rdVar, L3.mvVar, L3.stVar, L3.stR, L3.stTg, L3.stVars, L3.stVarsO, L3.passA, L3.backA, L3.doCall, L3.cellOf, L3.start3, Law.outs1, Law.outs2, Law.outs3, Law.outs4, L3.resOf, L3.runFn, L3.keepB, L3.Ow.isB, L3.Ow.isOwn, L3.isTys, L3.isTy, L3.itFin, L3.ItK.run, L3.kRng1, L3.kRng2, L3.kSeq, L3.seqD, L3.seqD2, L3.kEnm, L3.enmD, Law.fit_of, Law.fit3, L3.noEr, L3.slFin, L3.slice3, L3.shE, L3.Tg.slots, L3.wipeE, L3.restE, L3.asB, Law.sz0, Law.sz1, Law.sz2, L3.rAdd3, L3.rLen3, L3.rLt3, L3.rIdx3, Law.at30, Law.at31, Law.at32, Law.at20, Law.at21, L3.isNone, Law.eqD_int, Law.md0, Law.md1, Law.md2, Law.md3, Law.md4, Law.md5, Law.md6, Law.md7, Law.md8, Law.md9, Law.md10, Law.md11, Law.md12, Law.md13, Law.md14, Law.md15, Law.md16, Law.md17, Law.md18, Law.md19, Law.md20, Law.md21, Law.md22, Law.md23, Law.md24, Law.md25, Law.md26, Law.md27, Law.md28, e, e2]
  · rw [u10]; unfold fn_two_most; simp [L3.evSs, L3.evS.eq_1, L3.evS.eq_2, L3.evS.eq_3, L3.evS.eq_4, L3.evS.eq_5, L3.evS.eq_6, L3.evS.eq_9, L3.evS.eq_10, L3.evS.eq_11, L3.evS.eq_12, L3.evS.eq_13, L3.evS.eq_14, L3.evE.eq_1, L3.evE.eq_2, L3.evE.eq_3, L3.evE.eq_4, L3.evE.eq_5, L3.evE.eq_6, L3.evE.eq_7, L3.evE.eq_8, L3.evE.eq_9, L3.evE.eq_10, L3.evE.eq_11, L3.evE.eq_12, L3.evE.eq_13, L3.evE.eq_14, L3.evE.eq_15, L3.evE.eq_16, L3.evE.eq_18, L3.evE.eq_19, L3.evE.eq_20, L3.evE.eq_21, L3.evA, L3.evP, Law.evS_whlR, Law.evS_frR, Law.evE_lcR, Law.frR_nil, Law.frR_cons, Law.lcR_nil, Law.lcR_cons, L3.argOf, L3.Rs.bind, L3.opFin, L3.avDs, L3.avD, L3.vDs, L3.Op.keeps, L3.Op.run, L3.i1, L3.i2, L3.a1, L3.a2, L3.l1, L3.gd, L3.oB, L3.oI, L3.toB, L3.toI, L3.rdVar, L3.mvVar, L3.stVar, L3.stR, L3.stTg, L3.stVars, L3.stVarsO, L3.passA, L3.backA, L3.doCall, L3.cellOf, L3.start3, Law.outs1, Law.outs2, Law.outs3, Law.outs4, L3.resOf, L3.runFn, L3.keepB, L3.Ow.isB, L3.Ow.isOwn, L3.isTys, L3.isTy, L3.itFin, L3.ItK.run, L3.kRng1, L3.kRng2, L3.kSeq, L3.seqD, L3.seqD2, L3.kEnm, L3.enmD, Law.fit_of, Law.fit3, L3.noEr, L3.slFin, L3.slice3, L3.shE, L3.Tg.slots, L3.wipeE, L3.restE, L3.asB, Law.sz0, Law.sz1, Law.sz2, L3.rAdd3, L3.rLen3, L3.rLt3, L3.rIdx3, Law.at30, Law.at31, Law.at32, Law.at20, Law.at21, L3.isNone, Law.eqD_int, Law.md0, Law.md1, Law.md2, Law.md3, Law.md4, Law.md5, Law.md6, Law.md7, Law.md8, Law.md9, Law.md10, Law.md11, Law.md12, Law.md13, Law.md14, Law.md15, Law.md16, Law.md17, Law.md18, Law.md19, Law.md20, Law.md21, Law.md22, Law.md23, Law.md24, Law.md25, Law.md26, Law.md27, Law.md28, e, e2]
  · rw [u11]; unfold fn_two_signed; simp [L3.evSs, L3.evS.eq_1, L3.evS.eq_2, L3.evS.eq_3, L3.evS.eq_4, L3.evS.eq_5, L3.evS.eq_6, L3.evS.eq_9, L3.evS.eq_10, L3.evS.eq_11, L3.evS.eq_12, L3.evS.eq_13, L3.evS.eq_14, L3.evE.eq_1, L3.evE.eq_2, L3.evE.eq_3, L3.evE.eq_4, L3.evE.eq_5, L3.evE.eq_6, L3.evE.eq_7, L3.evE.eq_8, L3.evE.eq_9, L3.evE.eq_10, L3.evE.eq_11, L3.evE.eq_12, L3.evE.eq_13, L3.evE.eq_14, L3.evE.eq_15, L3.evE.eq_16, L3.evE.eq_18, L3.evE.eq_19, L3.evE.eq_20, L3.evE.eq_21, L3.evA, L3.evP, Law.evS_whlR, Law.evS_frR, Law.evE_lcR, Law.frR_nil, Law.frR_cons, Law.lcR_nil, Law.lcR_cons, L3.argOf, L3.Rs.bind, L3.opFin, L3.avDs, L3.avD, L3.vDs, L3.Op.keeps, L3.Op.run, L3.i1, L3.i2, L3.a1, L3.a2, L3.l1, L3.gd, L3.oB, L3.oI, L3.toB, L3.toI, L3.rdVar, L3.mvVar, L3.stVar, L3.stR, L3.stTg, L3.stVars, L3.stVarsO, L3.passA, L3.backA, L3.doCall, L3.cellOf, L3.start3, Law.outs1, Law.outs2, Law.outs3, Law.outs4, L3.resOf, L3.runFn, L3.keepB, L3.Ow.isB, L3.Ow.isOwn, L3.isTys, L3.isTy, L3.itFin, L3.ItK.run, L3.kRng1, L3.kRng2, L3.kSeq, L3.seqD, L3.seqD2, L3.kEnm, L3.enmD, Law.fit_of, Law.fit3, L3.noEr, L3.slFin, L3.slice3, L3.shE, L3.Tg.slots, L3.wipeE, L3.restE, L3.asB, Law.sz0, Law.sz1, Law.sz2, L3.rAdd3, L3.rLen3, L3.rLt3, L3.rIdx3, Law.at30, Law.at31, Law.at32, Law.at20, Law.at21, L3.isNone, Law.eqD_int, Law.md0, Law.md1, Law.md2, Law.md3, Law.md4, Law.md5, Law.md6, Law.md7, Law.md8, Law.md9, Law.md10, Law.md11, Law.md12, Law.md13, Law.md14, Law.md15, Law.md16, Law.md17, Law.md18, Law.md19, Law.md20, Law.md21, Law.md22, Law.md23, Law.md24, Law.md25, Law.md26, Law.md27, Law.md28, e, e2]
theorem ne_lists : eqD (.lst [.tup [.str "coins", .int (-1)], .str "number"]) (.lst [.tup [.str "coins", .int (-1)], .str "number"]) = some true := by kernel_rfl
theorem eq_lets : eqD (.lst [.str "let", .str "let"]) (.lst [.str "let", .str "let"]) = some true := by kernel_rfl
def ern (h odd a b number : D) (one other by_ great : Int) (pairs : Cell) (c10 c11 : Cell) : En :=
  [some (.brw, h), some (.sh, .int one), some (.sh, .int other), some (.sh, odd), some (.sh, .int by_), pairs, some (.sh, a), some (.sh, b), some (.sh, .int great), some (.sh, number), c10, c11]
theorem err_turn (n : Nat) (f : Nat) (h odd a b number : D) (one other by_ great : Int) (pairs c10 c11 : Cell) (h1 : Coin one) (h2 : Coin other) (co : Co one other) (hb : Bad a b) (hn : NoN number) (hf : f = 7 ∨ f = 8 ∨ f = 9 ∨ f = 10 ∨ f = 11) (k10 : okc c10) (k11 : okO c11) :
    ∃ c11', okO c11' ∧ ((stR (stTg (.nm 10) (.set [(f : Int)]) false (ern h odd a b number one other by_ great pairs c10 c11))).bind fun _ en => evSs WN (callD tb WN (n + 3)) (mdOf tb) F27_0 en) = .ok .nx (ern h odd a b number one other by_ great pairs (some (.sh, .set [(f : Int)])) c11') := by
  have e1 := e_bad f n number hb hf
  have e2 := e_num f n h1 h2 co hn hf
  refine ⟨some (.own, .lst [.tup [.str "coins", .int (-1)], .str "number"]), okO_ow, ?_⟩
  rcases hf with rfl | rfl | rfl | rfl | rfl <;> rcases k10 with rfl | ⟨_, rfl⟩ <;> rcases k11 with rfl | ⟨_, rfl⟩ | ⟨_, rfl⟩ <;> simp [L3.evSs, L3.evS.eq_1, L3.evS.eq_2, L3.evS.eq_3, L3.evS.eq_4, L3.evS.eq_5, L3.evS.eq_6, L3.evS.eq_9, L3.evS.eq_10, L3.evS.eq_11, L3.evS.eq_12, L3.evS.eq_13, L3.evS.eq_14, L3.evE.eq_1, L3.evE.eq_2, L3.evE.eq_3, L3.evE.eq_4, L3.evE.eq_5, L3.evE.eq_6, L3.evE.eq_7, L3.evE.eq_8, L3.evE.eq_9, L3.evE.eq_10, L3.evE.eq_11, L3.evE.eq_12, L3.evE.eq_13, L3.evE.eq_14, L3.evE.eq_15, L3.evE.eq_16, L3.evE.eq_18, L3.evE.eq_19, L3.evE.eq_20, L3.evE.eq_21, L3.evA, L3.evP, Law.evS_whlR, Law.evS_frR, Law.evE_lcR, Law.frR_nil, Law.frR_cons, Law.lcR_nil, Law.lcR_cons, L3.argOf, L3.Rs.bind, L3.opFin, L3.avDs, L3.avD, L3.vDs, L3.Op.keeps, L3.Op.run, L3.i1, L3.i2, L3.a1, L3.a2, L3.l1, L3.gd, L3.oB, L3.oI, L3.toB, L3.toI, L3.rdVar, L3.mvVar, L3.stVar, L3.stR, L3.stTg, L3.stVars, L3.stVarsO, L3.passA, L3.backA, L3.doCall, L3.cellOf, L3.start3, Law.outs1, Law.outs2, Law.outs3, Law.outs4, L3.resOf, L3.runFn, L3.keepB, L3.Ow.isB, L3.Ow.isOwn, L3.isTys, L3.isTy, L3.itFin, L3.ItK.run, L3.kRng1, L3.kRng2, L3.kSeq, L3.seqD, L3.seqD2, L3.kEnm, L3.enmD, Law.fit_of, Law.fit3, L3.noEr, L3.slFin, L3.slice3, L3.shE, L3.Tg.slots, L3.wipeE, L3.restE, L3.asB, Law.sz0, Law.sz1, Law.sz2, L3.rAdd3, L3.rLen3, L3.rLt3, L3.rIdx3, Law.at30, Law.at31, Law.at32, Law.at20, Law.at21, L3.isNone, Law.eqD_int, Law.md0, Law.md1, Law.md2, Law.md3, Law.md4, Law.md5, Law.md6, Law.md7, Law.md8, Law.md9, Law.md10, Law.md11, Law.md12, Law.md13, Law.md14, Law.md15, Law.md16, Law.md17, Law.md18, Law.md19, Law.md20, Law.md21, Law.md22, Law.md23, Law.md24, Law.md25, Law.md26, Law.md27, Law.md28, F27_0, ern, e1, e2, c_word_c, c_word_n, ne_lists]
end Law

namespace Law
open PySem PySem.Spec PyProof.Rows L2 L3
@[reducible] def B27_0 : S := (.asg (.nm 3) (.call 14 (.cons (.pk 0) (.cons (.op .lst (.cons (.cst (.int 0)) (.cons (.op .neg (.cons (.cst (.int 3)) .nil)) (.cons (.cst .non) (.cons (.cst (.bl true)) (.cons (.cst (.str "5")) (.cons (.op .tup (.cons (.cst (.int 5)) .nil)) (.cons (.op .add (.cons (.op .mul (.cons (.op .pow (.cons (.cst (.int 10)) (.cons (.cst (.int 50)) .nil))) (.cons (.op .pow (.cons (.cst (.int 10)) (.cons (.cst (.int 50)) .nil))) .nil))) (.cons (.cst (.int 1)) .nil))) (.cons (.op .lst (.cons (.cst (.int 2)) .nil)) (.cons (.op .dnew .nil) .nil)))))))))) .nil))))
@[reducible] def B27_1 : S := (.asg (.nm 4) (.op .add (.cons (.cst (.int 2)) (.cons (.call 13 (.cons (.pk 0) (.cons (.cst (.int 9)) .nil))) .nil))))
@[reducible] def B27_2 : S := (.asg (.nm 5) (.op .lst (.cons (.op .tup (.cons (.var 3) (.cons (.var 2) .nil))) (.cons (.op .tup (.cons (.var 1) (.cons (.var 3) .nil))) (.cons (.op .tup (.cons (.var 3) (.cons (.var 3) .nil))) (.cons (.op .tup (.cons (.op .mul (.cons (.pk 1) (.cons (.pk 4) .nil))) (.cons (.op .mul (.cons (.pk 2) (.cons (.pk 4) .nil))) .nil))) (.cons (.op .tup (.cons (.var 4) (.cons (.var 4) .nil))) .nil)))))))
@[reducible] def B27_3 : S := (.asg (.tp [6, 7]) (.call 14 (.cons (.pk 0) (.cons (.pk 5) .nil))))
@[reducible] def B27_4 : S := (.asg (.nm 8) (.op .mul (.cons (.op .mul (.cons (.op .mul (.cons (.op .mul (.cons (.op .pow (.cons (.cst (.int 10)) (.cons (.cst (.int 60)) .nil))) (.cons (.op .pow (.cons (.cst (.int 10)) (.cons (.cst (.int 60)) .nil))) .nil))) (.cons (.op .pow (.cons (.cst (.int 10)) (.cons (.cst (.int 60)) .nil))) .nil))) (.cons (.op .pow (.cons (.cst (.int 10)) (.cons (.cst (.int 60)) .nil))) .nil))) (.cons (.op .pow (.cons (.cst (.int 10)) (.cons (.cst (.int 60)) .nil))) .nil))))
@[reducible] def B27_5 : S := (.asg (.nm 9) (.call 14 (.cons (.pk 0) (.cons (.op .lst (.cons (.cst .non) (.cons (.cst (.bl true)) (.cons (.cst (.str "1")) (.cons (.op .tup (.cons (.cst (.int 1)) .nil)) (.cons (.op .lst (.cons (.cst (.int 1)) .nil)) (.cons (.op .dnew .nil) (.cons (.op .add (.cons (.pk 8) (.cons (.cst (.int 1)) .nil))) (.cons (.op .sub (.cons (.op .sub (.cons (.cst (.int 0)) (.cons (.pk 8) .nil))) (.cons (.cst (.int 1)) .nil))) .nil))))))))) .nil))))
@[reducible] def B27_6 : S := (.fr (.nm 10) .seq (.cons (.op .tup (.cons (.cst (.set [7])) (.cons (.cst (.set [8])) (.cons (.cst (.set [9])) (.cons (.cst (.set [10])) (.cons (.cst (.set [11])) .nil)))))) .nil) (.cons (.asg (.nm 11) (.op .lst (.cons (.lam 20 (.cl 10 [7, 8, 9, 10, 11] (.cons (.pk 6) (.cons (.pk 7) (.cons (.pk 9) .nil))))) (.cons (.lam 20 (.cl 10 [7, 8, 9, 10, 11] (.cons (.pk 1) (.cons (.pk 2) (.cons (.pk 9) .nil))))) .nil)))) (.cons (.ife (.op .ne (.cons (.pk 11) (.cons (.op .lst (.cons (.op .tup (.cons (.cst (.str "coins")) (.cons (.op .neg (.cons (.cst (.int 1)) .nil)) .nil))) (.cons (.cst (.str "number")) .nil))) .nil))) (.cons (.ret (.cst (.bl false))) .nil) .nil) .nil)))
@[reducible] def B27_7 : S := (.asg (.nm 11) (.op .lst (.cons (.lam 20 (.call 8 (.cons (.pk 1) (.cons (.pk 2) (.cons (.pk 8) .nil))))) .nil)))
@[reducible] def B27_8 : S := (.ret (.op .eq (.cons (.op .add (.cons (.pk 11) (.cons (.op .lst (.cons (.lam 20 (.call 7 (.cons (.pk 1) (.cons (.pk 2) (.cons (.op .sub (.cons (.cst (.int 0)) (.cons (.pk 8) .nil))) .nil))))) .nil)) .nil))) (.cons (.op .rep (.cons (.op .lst (.cons (.cst (.str "let")) .nil)) (.cons (.cst (.int 2)) .nil))) .nil))))
/-- one of a list that is lent -/
theorem any_lent (n : Nat) {h : D} {xs : List D} (H : Hd h) (h0 : 0 < xs.length) (h1 : xs.length < 1000) : ∃ h' x, Hd h' ∧ x ∈ xs ∧ callD tb WN (n + 2) 14 [(true, h), (true, .lst xs)] = .ok x false [some (.brw, h'), some (.brw, .lst xs)] := by
  obtain ⟨h', r, H', r0, r1, e⟩ := draw_of n (xs.length : Int) H (by omega) (up_lt 1000 (by decide) (small_lt (by omega) (by omega)))
  obtain ⟨j, rfl⟩ : ∃ j : Nat, r = j := ⟨r.toNat, by omega⟩
  have hj : j < xs.length := by omega
  refine ⟨h', xs[j], H', List.getElem_mem _, ?_⟩
  have ha : atI xs (j : Int) = some xs[j] := L3.atI_nat (List.getElem?_eq_getElem hj)
  generalize (j : Int) = J at *
  rw [u14]; unfold fn__law_some
  simp [L3.evSs, L3.evS.eq_1, L3.evS.eq_2, L3.evS.eq_3, L3.evS.eq_4, L3.evS.eq_5, L3.evS.eq_6, L3.evS.eq_9, L3.evS.eq_10, L3.evS.eq_11, L3.evS.eq_12, L3.evS.eq_13, L3.evS.eq_14, L3.evE.eq_1, L3.evE.eq_2, L3.evE.eq_3, L3.evE.eq_4, L3.evE.eq_5, L3.evE.eq_6, L3.evE.eq_7, L3.evE.eq_8, L3.evE.eq_9, L3.evE.eq_10, L3.evE.eq_11, L3.evE.eq_12, L3.evE.eq_13, L3.evE.eq_14, L3.evE.eq_15, L3.evE.eq_16, L3.evE.eq_18, L3.evE.eq_19, L3.evE.eq_20, L3.evE.eq_21, L3.evA, L3.evP, Law.evS_whlR, Law.evS_frR, Law.evE_lcR, Law.frR_nil, Law.frR_cons, Law.lcR_nil, Law.lcR_cons, L3.argOf, L3.Rs.bind, L3.opFin, L3.avDs, L3.avD, L3.vDs, L3.Op.keeps, L3.Op.run, L3.i1, L3.i2, L3.a1, L3.a2, L3.l1, L3.gd, L3.oB, L3.oI, L3.toB, L3.toI, L3.rdVar, L3.mvVar, L3.stVar, L3.stR, L3.stTg, L3.stVars, L3.stVarsO, L3.passA, L3.backA, L3.doCall, L3.cellOf, L3.start3, Law.outs1, Law.outs2, Law.outs3, Law.outs4, L3.resOf, L3.runFn, L3.keepB, L3.Ow.isB, L3.Ow.isOwn, L3.isTys, L3.isTy, L3.itFin, L3.ItK.run, L3.kRng1, L3.kRng2, L3.kSeq, L3.seqD, L3.seqD2, L3.kEnm, L3.enmD, Law.fit_of, Law.fit3, L3.noEr, L3.slFin, L3.slice3, L3.shE, L3.Tg.slots, L3.wipeE, L3.restE, L3.asB, Law.sz0, Law.sz1, Law.sz2, L3.rAdd3, L3.rLen3, L3.rLt3, L3.rIdx3, Law.at30, Law.at31, Law.at32, Law.at20, Law.at21, L3.isNone, Law.eqD_int, Law.md0, Law.md1, Law.md2, Law.md3, Law.md4, Law.md5, Law.md6, Law.md7, Law.md8, Law.md9, Law.md10, Law.md11, Law.md12, Law.md13, Law.md14, Law.md15, Law.md16, Law.md17, Law.md18, Law.md19, Law.md20, Law.md21, Law.md22, Law.md23, Law.md24, Law.md25, Law.md26, Law.md27, Law.md28, e, ha]
def menu1 : List D := [.int 0, .int (-3), .non, .bl true, .str "5", .tup [.int 5], .int 10000000000000000000000000000000000000000000000000000000000000000000000000000000000000000000000000001, .lst [.int 2], .dct [] []]
theorem menu1_bad : ∀ x ∈ menu1, NoC x := by
  intro x hx
  simp only [menu1, List.mem_cons, List.not_mem_nil, or_false] at hx
  rcases hx with rfl | rfl | rfl | rfl | rfl | rfl | rfl | rfl | rfl <;> refine ⟨rfl, fun i e => ?_⟩ <;> cases e <;> (intro z; have z1 := z.1; have z2 := z.2; revert z1 z2; decide)
def menu2 : List D := [.non, .bl true, .str "1", .tup [.int 1], .lst [.int 1], .dct [] [], .int (MN + 1), .int (-MN - 1)]
theorem menu2_bad : ∀ x ∈ menu2, NoN x := by
  intro x hx
  simp only [menu2, List.mem_cons, List.not_mem_nil, or_false] at hx
  rcases hx with rfl | rfl | rfl | rfl | rfl | rfl | rfl | rfl <;> refine ⟨rfl, fun i e => ?_⟩ <;> cases e <;> (intro z; have z1 := z.1; have z2 := z.2; revert z1 z2; decide)
def pairs (odd : D) (one other b : Int) : List D := [.tup [odd, .int other], .tup [.int one, odd], .tup [odd, odd], .tup [.int (one * b), .int (other * b)], .tup [.int b, .int b]]
theorem pairs_bad {odd : D} {one other b : Int} (h1 : Coin one) (h2 : Coin other) (ho : NoC odd) (hb : 2 ≤ b) : ∀ x ∈ pairs odd one other b, ∃ y z, x = .tup [y, z] ∧ Bad y z := by
  intro x hx
  have a1 := h1.1
  have a2 := h2.1
  simp only [pairs, List.mem_cons, List.not_mem_nil, or_false] at hx
  rcases hx with rfl | rfl | rfl | rfl | rfl
  · exact ⟨_, _, rfl, fun n => c_check_l n ho rfl⟩
  · exact ⟨_, _, rfl, fun n => c_check_r n h1 ho⟩
  · exact ⟨_, _, rfl, fun n => c_check_l n ho ho.1⟩
  · have m1 := Int.mul_le_mul a1 (show 1 ≤ b by omega) (by decide) (by omega)
    have m2 := Int.mul_le_mul a2 (show 1 ≤ b by omega) (by decide) (by omega)
    exact ⟨_, _, rfl, bad_gcd (g := b) (by omega) (by omega) (Int.dvd_mul_left _ _) (Int.dvd_mul_left _ _) hb⟩
  · exact ⟨_, _, rfl, bad_gcd (g := b) (by omega) (by omega) (Int.dvd_refl _) (Int.dvd_refl _) hb⟩
def er0 (h : D) (one other : Int) (c3 c4 c5 c6 c7 c8 c9 : Cell) : En := [some (.brw, h), some (.sh, .int one), some (.sh, .int other), c3, c4, c5, c6, c7, c8, c9, none, none]
abbrev M3 : Int := 1000000000000000000000000000000000000000000000000000000000000000000000000000000000000000000000000000000000000000000000000000000000000000000000000000000000000000000000000000000000000
theorem mok3 : mulOk MT M60 = true := by decide
theorem mok4 : mulOk 1000000000000000000000000000000000000000000000000000000000000000000000000000000000000000000000000000000000000000000000000000000000000000000000000000000000000000000000000000000000000 1000000000000000000000000000000000000000000000000000000000000 = true := by decide
theorem mok5 : mulOk 1000000000000000000000000000000000000000000000000000000000000000000000000000000000000000000000000000000000000000000000000000000000000000000000000000000000000000000000000000000000000000000000000000000000000000000000000000000000000000000000000 1000000000000000000000000000000000000000000000000000000000000 = true := by decide
theorem mok50 : mulOk 100000000000000000000000000000000000000000000000000 100000000000000000000000000000000000000000000000000 = true := by decide
theorem r_0 (C : CR) (h h1 : D) (one other : Int) (x : D) (e : C 14 [(true, h), (false, .lst menu1)] = .ok x false [some (.brw, h1), none]) : Ps WN C (mdOf tb) (er0 h one other none none none none none none none) B27_0 (er0 h1 one other (some (.sh, x)) none none none none none none) := by
  unfold Ps
  unfold menu1 at e
  simp [L3.evSs, L3.evS.eq_1, L3.evS.eq_2, L3.evS.eq_3, L3.evS.eq_4, L3.evS.eq_5, L3.evS.eq_6, L3.evS.eq_9, L3.evS.eq_10, L3.evS.eq_11, L3.evS.eq_12, L3.evS.eq_13, L3.evS.eq_14, L3.evE.eq_1, L3.evE.eq_2, L3.evE.eq_3, L3.evE.eq_4, L3.evE.eq_5, L3.evE.eq_6, L3.evE.eq_7, L3.evE.eq_8, L3.evE.eq_9, L3.evE.eq_10, L3.evE.eq_11, L3.evE.eq_12, L3.evE.eq_13, L3.evE.eq_14, L3.evE.eq_15, L3.evE.eq_16, L3.evE.eq_18, L3.evE.eq_19, L3.evE.eq_20, L3.evE.eq_21, L3.evA, L3.evP, Law.evS_whlR, Law.evS_frR, Law.evE_lcR, Law.frR_nil, Law.frR_cons, Law.lcR_nil, Law.lcR_cons, L3.argOf, L3.Rs.bind, L3.opFin, L3.avDs, L3.avD, L3.vDs, L3.Op.keeps, L3.Op.run, L3.i1, L3.i2, L3.a1, L3.a2, L3.l1, L3.gd, L3.oB, L3.oI, L3.toB, L3.toI, L3.rdVar, L3.mvVar, L3.stVar, L3.stR, L3.stTg, L3.stVars, L3.stVarsO, L3.passA, L3.backA, L3.doCall, L3.cellOf, L3.start3, Law.outs1, Law.outs2, Law.outs3, Law.outs4, L3.resOf, L3.runFn, L3.keepB, L3.Ow.isB, L3.Ow.isOwn, L3.isTys, L3.isTy, L3.itFin, L3.ItK.run, L3.kRng1, L3.kRng2, L3.kSeq, L3.seqD, L3.seqD2, L3.kEnm, L3.enmD, Law.fit_of, Law.fit3, L3.noEr, L3.slFin, L3.slice3, L3.shE, L3.Tg.slots, L3.wipeE, L3.restE, L3.asB, Law.sz0, Law.sz1, Law.sz2, L3.rAdd3, L3.rLen3, L3.rLt3, L3.rIdx3, Law.at30, Law.at31, Law.at32, Law.at20, Law.at21, L3.isNone, Law.eqD_int, Law.md0, Law.md1, Law.md2, Law.md3, Law.md4, Law.md5, Law.md6, Law.md7, Law.md8, Law.md9, Law.md10, Law.md11, Law.md12, Law.md13, Law.md14, Law.md15, Law.md16, Law.md17, Law.md18, Law.md19, Law.md20, Law.md21, Law.md22, Law.md23, Law.md24, Law.md25, Law.md26, Law.md27, Law.md28, er0, e, pow50, mok50]
theorem r_1 (C : CR) (h h1 : D) (one other r : Int) (c3 : Cell) (e : C 13 [(true, h), (false, .int 9)] = .ok (.int r) false [some (.brw, h1), none]) : Ps WN C (mdOf tb) (er0 h one other c3 none none none none none none) B27_1 (er0 h1 one other c3 (some (.sh, .int (2 + r))) none none none none none) := by
  unfold Ps
  simp [L3.evSs, L3.evS.eq_1, L3.evS.eq_2, L3.evS.eq_3, L3.evS.eq_4, L3.evS.eq_5, L3.evS.eq_6, L3.evS.eq_9, L3.evS.eq_10, L3.evS.eq_11, L3.evS.eq_12, L3.evS.eq_13, L3.evS.eq_14, L3.evE.eq_1, L3.evE.eq_2, L3.evE.eq_3, L3.evE.eq_4, L3.evE.eq_5, L3.evE.eq_6, L3.evE.eq_7, L3.evE.eq_8, L3.evE.eq_9, L3.evE.eq_10, L3.evE.eq_11, L3.evE.eq_12, L3.evE.eq_13, L3.evE.eq_14, L3.evE.eq_15, L3.evE.eq_16, L3.evE.eq_18, L3.evE.eq_19, L3.evE.eq_20, L3.evE.eq_21, L3.evA, L3.evP, Law.evS_whlR, Law.evS_frR, Law.evE_lcR, Law.frR_nil, Law.frR_cons, Law.lcR_nil, Law.lcR_cons, L3.argOf, L3.Rs.bind, L3.opFin, L3.avDs, L3.avD, L3.vDs, L3.Op.keeps, L3.Op.run, L3.i1, L3.i2, L3.a1, L3.a2, L3.l1, L3.gd, L3.oB, L3.oI, L3.toB, L3.toI, L3.rdVar, L3.mvVar, L3.stVar, L3.stR, L3.stTg, L3.stVars, L3.stVarsO, L3.passA, L3.backA, L3.doCall, L3.cellOf, L3.start3, Law.outs1, Law.outs2, Law.outs3, Law.outs4, L3.resOf, L3.runFn, L3.keepB, L3.Ow.isB, L3.Ow.isOwn, L3.isTys, L3.isTy, L3.itFin, L3.ItK.run, L3.kRng1, L3.kRng2, L3.kSeq, L3.seqD, L3.seqD2, L3.kEnm, L3.enmD, Law.fit_of, Law.fit3, L3.noEr, L3.slFin, L3.slice3, L3.shE, L3.Tg.slots, L3.wipeE, L3.restE, L3.asB, Law.sz0, Law.sz1, Law.sz2, L3.rAdd3, L3.rLen3, L3.rLt3, L3.rIdx3, Law.at30, Law.at31, Law.at32, Law.at20, Law.at21, L3.isNone, Law.eqD_int, Law.md0, Law.md1, Law.md2, Law.md3, Law.md4, Law.md5, Law.md6, Law.md7, Law.md8, Law.md9, Law.md10, Law.md11, Law.md12, Law.md13, Law.md14, Law.md15, Law.md16, Law.md17, Law.md18, Law.md19, Law.md20, Law.md21, Law.md22, Law.md23, Law.md24, Law.md25, Law.md26, Law.md27, Law.md28, er0, e]
theorem r_2 (C : CR) (h : D) (one other b : Int) (odd : D) (m1 : mulOk one b = true) (m2 : mulOk other b = true) : Ps WN C (mdOf tb) (er0 h one other (some (.sh, odd)) (some (.sh, .int b)) none none none none none) B27_2 (er0 h one other (some (.sh, odd)) (some (.sh, .int b)) (some (.own, .lst (pairs odd one other b))) none none none none) := by
  unfold Ps
  simp [L3.evSs, L3.evS.eq_1, L3.evS.eq_2, L3.evS.eq_3, L3.evS.eq_4, L3.evS.eq_5, L3.evS.eq_6, L3.evS.eq_9, L3.evS.eq_10, L3.evS.eq_11, L3.evS.eq_12, L3.evS.eq_13, L3.evS.eq_14, L3.evE.eq_1, L3.evE.eq_2, L3.evE.eq_3, L3.evE.eq_4, L3.evE.eq_5, L3.evE.eq_6, L3.evE.eq_7, L3.evE.eq_8, L3.evE.eq_9, L3.evE.eq_10, L3.evE.eq_11, L3.evE.eq_12, L3.evE.eq_13, L3.evE.eq_14, L3.evE.eq_15, L3.evE.eq_16, L3.evE.eq_18, L3.evE.eq_19, L3.evE.eq_20, L3.evE.eq_21, L3.evA, L3.evP, Law.evS_whlR, Law.evS_frR, Law.evE_lcR, Law.frR_nil, Law.frR_cons, Law.lcR_nil, Law.lcR_cons, L3.argOf, L3.Rs.bind, L3.opFin, L3.avDs, L3.avD, L3.vDs, L3.Op.keeps, L3.Op.run, L3.i1, L3.i2, L3.a1, L3.a2, L3.l1, L3.gd, L3.oB, L3.oI, L3.toB, L3.toI, L3.rdVar, L3.mvVar, L3.stVar, L3.stR, L3.stTg, L3.stVars, L3.stVarsO, L3.passA, L3.backA, L3.doCall, L3.cellOf, L3.start3, Law.outs1, Law.outs2, Law.outs3, Law.outs4, L3.resOf, L3.runFn, L3.keepB, L3.Ow.isB, L3.Ow.isOwn, L3.isTys, L3.isTy, L3.itFin, L3.ItK.run, L3.kRng1, L3.kRng2, L3.kSeq, L3.seqD, L3.seqD2, L3.kEnm, L3.enmD, Law.fit_of, Law.fit3, L3.noEr, L3.slFin, L3.slice3, L3.shE, L3.Tg.slots, L3.wipeE, L3.restE, L3.asB, Law.sz0, Law.sz1, Law.sz2, L3.rAdd3, L3.rLen3, L3.rLt3, L3.rIdx3, Law.at30, Law.at31, Law.at32, Law.at20, Law.at21, L3.isNone, Law.eqD_int, Law.md0, Law.md1, Law.md2, Law.md3, Law.md4, Law.md5, Law.md6, Law.md7, Law.md8, Law.md9, Law.md10, Law.md11, Law.md12, Law.md13, Law.md14, Law.md15, Law.md16, Law.md17, Law.md18, Law.md19, Law.md20, Law.md21, Law.md22, Law.md23, Law.md24, Law.md25, Law.md26, Law.md27, Law.md28, er0, pairs, m1, m2]
theorem r_3 (C : CR) (h h1 : D) (one other : Int) (c3 c4 : Cell) (xs : List D) (y z : D) (e : C 14 [(true, h), (true, .lst xs)] = .ok (.tup [y, z]) false [some (.brw, h1), some (.brw, .lst xs)]) : Ps WN C (mdOf tb) (er0 h one other c3 c4 (some (.own, .lst xs)) none none none none) B27_3 (er0 h1 one other c3 c4 (some (.own, .lst xs)) (some (.sh, y)) (some (.sh, z)) none none) := by
  unfold Ps
  simp [L3.evSs, L3.evS.eq_1, L3.evS.eq_2, L3.evS.eq_3, L3.evS.eq_4, L3.evS.eq_5, L3.evS.eq_6, L3.evS.eq_9, L3.evS.eq_10, L3.evS.eq_11, L3.evS.eq_12, L3.evS.eq_13, L3.evS.eq_14, L3.evE.eq_1, L3.evE.eq_2, L3.evE.eq_3, L3.evE.eq_4, L3.evE.eq_5, L3.evE.eq_6, L3.evE.eq_7, L3.evE.eq_8, L3.evE.eq_9, L3.evE.eq_10, L3.evE.eq_11, L3.evE.eq_12, L3.evE.eq_13, L3.evE.eq_14, L3.evE.eq_15, L3.evE.eq_16, L3.evE.eq_18, L3.evE.eq_19, L3.evE.eq_20, L3.evE.eq_21, L3.evA, L3.evP, Law.evS_whlR, Law.evS_frR, Law.evE_lcR, Law.frR_nil, Law.frR_cons, Law.lcR_nil, Law.lcR_cons, L3.argOf, L3.Rs.bind, L3.opFin, L3.avDs, L3.avD, L3.vDs, L3.Op.keeps, L3.Op.run, L3.i1, L3.i2, L3.a1, L3.a2, L3.l1, L3.gd, L3.oB, L3.oI, L3.toB, L3.toI, L3.rdVar, L3.mvVar, L3.stVar, L3.stR, L3.stTg, L3.stVars, L3.stVarsO, L3.passA, L3.backA, L3.doCall, L3.cellOf, L3.start3, Law.outs1, Law.outs2, Law.outs3, Law.outs4, L3.resOf, L3.runFn, L3.keepB, L3.Ow.isB, L3.Ow.isOwn, L3.isTys, L3.isTy, L3.itFin, L3.ItK.run, L3.kRng1, L3.kRng2, L3.kSeq, L3.seqD, L3.seqD2, L3.kEnm, L3.enmD, Law.fit_of, Law.fit3, L3.noEr, L3.slFin, L3.slice3, L3.shE, L3.Tg.slots, L3.wipeE, L3.restE, L3.asB, Law.sz0, Law.sz1, Law.sz2, L3.rAdd3, L3.rLen3, L3.rLt3, L3.rIdx3, Law.at30, Law.at31, Law.at32, Law.at20, Law.at21, L3.isNone, Law.eqD_int, Law.md0, Law.md1, Law.md2, Law.md3, Law.md4, Law.md5, Law.md6, Law.md7, Law.md8, Law.md9, Law.md10, Law.md11, Law.md12, Law.md13, Law.md14, Law.md15, Law.md16, Law.md17, Law.md18, Law.md19, Law.md20, Law.md21, Law.md22, Law.md23, Law.md24, Law.md25, Law.md26, Law.md27, Law.md28, er0, e]
theorem r_4 (C : CR) (h : D) (one other : Int) (c3 c4 c5 c6 c7 : Cell) : Ps WN C (mdOf tb) (er0 h one other c3 c4 c5 c6 c7 none none) B27_4 (er0 h one other c3 c4 c5 c6 c7 (some (.sh, .int MN)) none) := by
  unfold Ps
  simp [L3.evSs, L3.evS.eq_1, L3.evS.eq_2, L3.evS.eq_3, L3.evS.eq_4, L3.evS.eq_5, L3.evS.eq_6, L3.evS.eq_9, L3.evS.eq_10, L3.evS.eq_11, L3.evS.eq_12, L3.evS.eq_13, L3.evS.eq_14, L3.evE.eq_1, L3.evE.eq_2, L3.evE.eq_3, L3.evE.eq_4, L3.evE.eq_5, L3.evE.eq_6, L3.evE.eq_7, L3.evE.eq_8, L3.evE.eq_9, L3.evE.eq_10, L3.evE.eq_11, L3.evE.eq_12, L3.evE.eq_13, L3.evE.eq_14, L3.evE.eq_15, L3.evE.eq_16, L3.evE.eq_18, L3.evE.eq_19, L3.evE.eq_20, L3.evE.eq_21, L3.evA, L3.evP, Law.evS_whlR, Law.evS_frR, Law.evE_lcR, Law.frR_nil, Law.frR_cons, Law.lcR_nil, Law.lcR_cons, L3.argOf, L3.Rs.bind, L3.opFin, L3.avDs, L3.avD, L3.vDs, L3.Op.keeps, L3.Op.run, L3.i1, L3.i2, L3.a1, L3.a2, L3.l1, L3.gd, L3.oB, L3.oI, L3.toB, L3.toI, L3.rdVar, L3.mvVar, L3.stVar, L3.stR, L3.stTg, L3.stVars, L3.stVarsO, L3.passA, L3.backA, L3.doCall, L3.cellOf, L3.start3, Law.outs1, Law.outs2, Law.outs3, Law.outs4, L3.resOf, L3.runFn, L3.keepB, L3.Ow.isB, L3.Ow.isOwn, L3.isTys, L3.isTy, L3.itFin, L3.ItK.run, L3.kRng1, L3.kRng2, L3.kSeq, L3.seqD, L3.seqD2, L3.kEnm, L3.enmD, Law.fit_of, Law.fit3, L3.noEr, L3.slFin, L3.slice3, L3.shE, L3.Tg.slots, L3.wipeE, L3.restE, L3.asB, Law.sz0, Law.sz1, Law.sz2, L3.rAdd3, L3.rLen3, L3.rLt3, L3.rIdx3, Law.at30, Law.at31, Law.at32, Law.at20, Law.at21, L3.isNone, Law.eqD_int, Law.md0, Law.md1, Law.md2, Law.md3, Law.md4, Law.md5, Law.md6, Law.md7, Law.md8, Law.md9, Law.md10, Law.md11, Law.md12, Law.md13, Law.md14, Law.md15, Law.md16, Law.md17, Law.md18, Law.md19, Law.md20, Law.md21, Law.md22, Law.md23, Law.md24, Law.md25, Law.md26, Law.md27, Law.md28, er0, pow60, mok60, mok3, mok4, mok5]
theorem r_5 (C : CR) (h h1 : D) (one other : Int) (c3 c4 c5 c6 c7 : Cell) (x : D) (e : C 14 [(true, h), (false, .lst menu2)] = .ok x false [some (.brw, h1), none]) : Ps WN C (mdOf tb) (er0 h one other c3 c4 c5 c6 c7 (some (.sh, .int MN)) none) B27_5 (er0 h1 one other c3 c4 c5 c6 c7 (some (.sh, .int MN)) (some (.sh, x))) := by
  unfold Ps
  unfold menu2 at e
  simp [L3.evSs, L3.evS.eq_1, L3.evS.eq_2, L3.evS.eq_3, L3.evS.eq_4, L3.evS.eq_5, L3.evS.eq_6, L3.evS.eq_9, L3.evS.eq_10, L3.evS.eq_11, L3.evS.eq_12, L3.evS.eq_13, L3.evS.eq_14, L3.evE.eq_1, L3.evE.eq_2, L3.evE.eq_3, L3.evE.eq_4, L3.evE.eq_5, L3.evE.eq_6, L3.evE.eq_7, L3.evE.eq_8, L3.evE.eq_9, L3.evE.eq_10, L3.evE.eq_11, L3.evE.eq_12, L3.evE.eq_13, L3.evE.eq_14, L3.evE.eq_15, L3.evE.eq_16, L3.evE.eq_18, L3.evE.eq_19, L3.evE.eq_20, L3.evE.eq_21, L3.evA, L3.evP, Law.evS_whlR, Law.evS_frR, Law.evE_lcR, Law.frR_nil, Law.frR_cons, Law.lcR_nil, Law.lcR_cons, L3.argOf, L3.Rs.bind, L3.opFin, L3.avDs, L3.avD, L3.vDs, L3.Op.keeps, L3.Op.run, L3.i1, L3.i2, L3.a1, L3.a2, L3.l1, L3.gd, L3.oB, L3.oI, L3.toB, L3.toI, L3.rdVar, L3.mvVar, L3.stVar, L3.stR, L3.stTg, L3.stVars, L3.stVarsO, L3.passA, L3.backA, L3.doCall, L3.cellOf, L3.start3, Law.outs1, Law.outs2, Law.outs3, Law.outs4, L3.resOf, L3.runFn, L3.keepB, L3.Ow.isB, L3.Ow.isOwn, L3.isTys, L3.isTy, L3.itFin, L3.ItK.run, L3.kRng1, L3.kRng2, L3.kSeq, L3.seqD, L3.seqD2, L3.kEnm, L3.enmD, Law.fit_of, Law.fit3, L3.noEr, L3.slFin, L3.slice3, L3.shE, L3.Tg.slots, L3.wipeE, L3.restE, L3.asB, Law.sz0, Law.sz1, Law.sz2, L3.rAdd3, L3.rLen3, L3.rLt3, L3.rIdx3, Law.at30, Law.at31, Law.at32, Law.at20, Law.at21, L3.isNone, Law.eqD_int, Law.md0, Law.md1, Law.md2, Law.md3, Law.md4, Law.md5, Law.md6, Law.md7, Law.md8, Law.md9, Law.md10, Law.md11, Law.md12, Law.md13, Law.md14, Law.md15, Law.md16, Law.md17, Law.md18, Law.md19, Law.md20, Law.md21, Law.md22, Law.md23, Law.md24, Law.md25, Law.md26, Law.md27, Law.md28, er0, e]
end Law

namespace Law
open PySem PySem.Spec PyProof.Rows L2 L3
theorem r_7 (C : CR) (h odd a b number : D) (one other by_ v : Int) (c5 c10 c11 : Cell) (k11 : okO c11) (o1 o2 o3 : Cell) (e : C 8 [(false, .int one), (false, .int other), (false, .int MN)] = .ok (.int v) false [o1, o2, o3]) (ew : ∀ d, C 20 [(false, .thk true d)] = .ok (.str "let") false [none]) :
    Ps WN C (mdOf tb) (ern h odd a b number one other by_ MN c5 c10 c11) B27_7 (ern h odd a b number one other by_ MN c5 c10 (some (.own, .lst [.str "let"]))) := by
  unfold Ps
  rcases k11 with rfl | ⟨_, rfl⟩ | ⟨_, rfl⟩ <;> simp [L3.evSs, L3.evS.eq_1, L3.evS.eq_2, L3.evS.eq_3, L3.evS.eq_4, L3.evS.eq_5, L3.evS.eq_6, L3.evS.eq_9, L3.evS.eq_10, L3.evS.eq_11, L3.evS.eq_12, L3.evS.eq_13, L3.evS.eq_14, L3.evE.eq_1, L3.evE.eq_2, L3.evE.eq_3, L3.evE.eq_4, L3.evE.eq_5, L3.evE.eq_6, L3.evE.eq_7, L3.evE.eq_8, L3.evE.eq_9, L3.evE.eq_10, L3.evE.eq_11, L3.evE.eq_12, L3.evE.eq_13, L3.evE.eq_14, L3.evE.eq_15, L3.evE.eq_16, L3.evE.eq_18, L3.evE.eq_19, L3.evE.eq_20, L3.evE.eq_21, L3.evA, L3.evP, Law.evS_whlR, Law.evS_frR, Law.evE_lcR, Law.frR_nil, Law.frR_cons, Law.lcR_nil, Law.lcR_cons, L3.argOf, L3.Rs.bind, L3.opFin, L3.avDs, L3.avD, L3.vDs, L3.Op.keeps, L3.Op.run, L3.i1, L3.i2, L3.a1, L3.a2, L3.l1, L3.gd, L3.oB, L3.oI, L3.toB, L3.toI, L3.rdVar, L3.mvVar, L3.stVar, L3.stR, L3.stTg, L3.stVars, L3.stVarsO, L3.passA, L3.backA, L3.doCall, L3.cellOf, L3.start3, Law.outs1, Law.outs2, Law.outs3, Law.outs4, L3.resOf, L3.runFn, L3.keepB, L3.Ow.isB, L3.Ow.isOwn, L3.isTys, L3.isTy, L3.itFin, L3.ItK.run, L3.kRng1, L3.kRng2, L3.kSeq, L3.seqD, L3.seqD2, L3.kEnm, L3.enmD, Law.fit_of, Law.fit3, L3.noEr, L3.slFin, L3.slice3, L3.shE, L3.Tg.slots, L3.wipeE, L3.restE, L3.asB, Law.sz0, Law.sz1, Law.sz2, L3.rAdd3, L3.rLen3, L3.rLt3, L3.rIdx3, Law.at30, Law.at31, Law.at32, Law.at20, Law.at21, L3.isNone, Law.eqD_int, Law.md0, Law.md1, Law.md2, Law.md3, Law.md4, Law.md5, Law.md6, Law.md7, Law.md8, Law.md9, Law.md10, Law.md11, Law.md12, Law.md13, Law.md14, Law.md15, Law.md16, Law.md17, Law.md18, Law.md19, Law.md20, Law.md21, Law.md22, Law.md23, Law.md24, Law.md25, Law.md26, Law.md27, Law.md28, ern, e, ew]
theorem r_8 (C : CR) (h odd a b number : D) (one other by_ : Int) (c5 c10 : Cell) (v : D) (own : Bool) (o1 o2 o3 : Cell) (e : C 7 [(false, .int one), (false, .int other), (false, .int (-MN))] = .ok v own [o1, o2, o3]) (ew : ∀ d, C 20 [(false, .thk true d)] = .ok (.str "let") false [none]) :
    evSs WN C (mdOf tb) (.cons B27_8 .nil) (ern h odd a b number one other by_ MN c5 c10 (some (.own, .lst [.str "let"]))) = .ok (.rt (.bl true) false) (ern h odd a b number one other by_ MN c5 c10 (some (.own, .lst [.str "let"]))) := by
  simp [L3.evSs, L3.evS.eq_1, L3.evS.eq_2, L3.evS.eq_3, L3.evS.eq_4, L3.evS.eq_5, L3.evS.eq_6, L3.evS.eq_9, L3.evS.eq_10, L3.evS.eq_11, L3.evS.eq_12, L3.evS.eq_13, L3.evS.eq_14, L3.evE.eq_1, L3.evE.eq_2, L3.evE.eq_3, L3.evE.eq_4, L3.evE.eq_5, L3.evE.eq_6, L3.evE.eq_7, L3.evE.eq_8, L3.evE.eq_9, L3.evE.eq_10, L3.evE.eq_11, L3.evE.eq_12, L3.evE.eq_13, L3.evE.eq_14, L3.evE.eq_15, L3.evE.eq_16, L3.evE.eq_18, L3.evE.eq_19, L3.evE.eq_20, L3.evE.eq_21, L3.evA, L3.evP, Law.evS_whlR, Law.evS_frR, Law.evE_lcR, Law.frR_nil, Law.frR_cons, Law.lcR_nil, Law.lcR_cons, L3.argOf, L3.Rs.bind, L3.opFin, L3.avDs, L3.avD, L3.vDs, L3.Op.keeps, L3.Op.run, L3.i1, L3.i2, L3.a1, L3.a2, L3.l1, L3.gd, L3.oB, L3.oI, L3.toB, L3.toI, L3.rdVar, L3.mvVar, L3.stVar, L3.stR, L3.stTg, L3.stVars, L3.stVarsO, L3.passA, L3.backA, L3.doCall, L3.cellOf, L3.start3, Law.outs1, Law.outs2, Law.outs3, Law.outs4, L3.resOf, L3.runFn, L3.keepB, L3.Ow.isB, L3.Ow.isOwn, L3.isTys, L3.isTy, L3.itFin, L3.ItK.run, L3.kRng1, L3.kRng2, L3.kSeq, L3.seqD, L3.seqD2, L3.kEnm, L3.enmD, Law.fit_of, Law.fit3, L3.noEr, L3.slFin, L3.slice3, L3.shE, L3.Tg.slots, L3.wipeE, L3.restE, L3.asB, Law.sz0, Law.sz1, Law.sz2, L3.rAdd3, L3.rLen3, L3.rLt3, L3.rIdx3, Law.at30, Law.at31, Law.at32, Law.at20, Law.at21, L3.isNone, Law.eqD_int, Law.md0, Law.md1, Law.md2, Law.md3, Law.md4, Law.md5, Law.md6, Law.md7, Law.md8, Law.md9, Law.md10, Law.md11, Law.md12, Law.md13, Law.md14, Law.md15, Law.md16, Law.md17, Law.md18, Law.md19, Law.md20, Law.md21, Law.md22, Law.md23, Law.md24, Law.md25, Law.md26, Law.md27, Law.md28, ern, e, ew, rRep3, eq_lets]
theorem c_errs (n : Nat) {h : D} (H : Hd h) {one other : Int} (h1 : Coin one) (h2 : Coin other) (co : Co one other) : ∃ h', Hd h' ∧ callD tb WN (n + 4) 27 [(true, h), (false, .int one), (false, .int other)] = .ok (.bl true) false [some (.brw, h'), none, none] := by
  obtain ⟨a1, odd, A1, ho, e0⟩ := any_of (n + 1) (xs := menu1) H (by show 0 < 9; decide) (by show 9 < 1073741824; decide)
  obtain ⟨a2, r, A2, r0, r1, e1⟩ := draw_of (n + 2) 9 A1 (by decide) (by decide)
  obtain ⟨a3, pr, A3, hp, e2⟩ := any_lent (n + 1) (xs := pairs odd one other (2 + r)) A2 (by show 0 < 5; decide) (by show 5 < 1000; decide)
  obtain ⟨y, z, rfl, hb⟩ := pairs_bad h1 h2 (menu1_bad odd ho) (by omega) pr hp
  obtain ⟨a4, x, A4, hx, e3⟩ := any_of (n + 1) (xs := menu2) A3 (by show 0 < 8; decide) (by show 8 < 1073741824; decide)
  have hn := menu2_bad x hx
  have q1 : Qu one other MN := ⟨h1, h2, co, ⟨by decide, by decide⟩⟩
  have q2 : Qu one other (-MN) := ⟨h1, h2, co, ⟨by decide, by decide⟩⟩
  obtain ⟨x1, y1, s1⟩ := ex_spl q1
  obtain ⟨x2, y2, s2⟩ := ex_spl q2
  have w1 := c_ways n q1 s1
  have w2 := c_pay n q2 s2
  refine ⟨a4, A4, ?_⟩
  have m1 : mulOk one (2 + r) = true := mulC h1.n997 (small_lt (by omega) (by omega))
  have m2 : mulOk other (2 + r) = true := mulC h2.n997 (small_lt (by omega) (by omega))
  have t0 := r_0 (callD tb WN (n + 3)) h a1 one other odd e0
  have t1 := r_1 (callD tb WN (n + 3)) a1 a2 one other r (some (.sh, odd)) e1
  have t2 := r_2 (callD tb WN (n + 3)) a2 one other (2 + r) odd m1 m2
  have t3 := r_3 (callD tb WN (n + 3)) a2 a3 one other (some (.sh, odd)) (some (.sh, .int (2 + r))) _ y z e2
  have t4 := r_4 (callD tb WN (n + 3)) a3 one other (some (.sh, odd)) (some (.sh, .int (2 + r))) (some (.own, .lst (pairs odd one other (2 + r)))) (some (.sh, y)) (some (.sh, z))
  have t5 := r_5 (callD tb WN (n + 3)) a3 a4 one other (some (.sh, odd)) (some (.sh, .int (2 + r))) (some (.own, .lst (pairs odd one other (2 + r)))) (some (.sh, y)) (some (.sh, z)) x e3
  let L : List D := [.set [7], .set [8], .set [9], .set [10], .set [11]]
  let en1 : En := ern a4 odd y z x one other (2 + r) MN (some (.own, .lst (pairs odd one other (2 + r)))) none none
  obtain ⟨en', f1, c10, c11, k10, k11, f2⟩ := frR_inv (w := WN) (C := callD tb WN (n + 3)) (md := mdOf tb) (tg := .nm 10) (b := F27_0) (fun en => ∃ c10 c11, okc c10 ∧ okO c11 ∧ en = ern a4 odd y z x one other (2 + r) MN (some (.own, .lst (pairs odd one other (2 + r)))) c10 c11) L en1 ⟨_, _, .inl rfl, .inl rfl, rfl⟩ (by
    intro d hd en ⟨c10, c11, k10, k11, e⟩
    subst e
    have : ∃ f : Nat, d = .set [(f : Int)] ∧ (f = 7 ∨ f = 8 ∨ f = 9 ∨ f = 10 ∨ f = 11) := by
      simp only [L, List.mem_cons, List.not_mem_nil, or_false] at hd
      rcases hd with rfl | rfl | rfl | rfl | rfl
      · exact ⟨7, rfl, by decide⟩
      · exact ⟨8, rfl, by decide⟩
      · exact ⟨9, rfl, by decide⟩
      · exact ⟨10, rfl, by decide⟩
      · exact ⟨11, rfl, by decide⟩
    obtain ⟨f, rfl, hf⟩ := this
    obtain ⟨c11', k11', e⟩ := err_turn n f a4 odd y z x one other (2 + r) MN (some (.own, .lst (pairs odd one other (2 + r)))) c10 c11 h1 h2 co hb hn hf k10 k11
    exact ⟨_, e, _, _, okc_sh, k11', rfl⟩)
  subst f2
  have t6 : Ps WN (callD tb WN (n + 3)) (mdOf tb) en1 B27_6 (ern a4 odd y z x one other (2 + r) MN (some (.own, .lst (pairs odd one other (2 + r)))) c10 c11) := by
    unfold Ps
    have e : evE (callD tb WN (n + 3)) (mdOf tb) (.op .tup (.cons (.cst (.set [7])) (.cons (.cst (.set [8])) (.cons (.cst (.set [9])) (.cons (.cst (.set [10])) (.cons (.cst (.set [11])) .nil)))))) en1 = .ok (.tup [.set [7], .set [8], .set [9], .set [10], .set [11]], false) en1 := by simp [L3.evSs, L3.evS.eq_1, L3.evS.eq_2, L3.evS.eq_3, L3.evS.eq_4, L3.evS.eq_5, L3.evS.eq_6, L3.evS.eq_9, L3.evS.eq_10, L3.evS.eq_11, L3.evS.eq_12, L3.evS.eq_13, L3.evS.eq_14, L3.evE.eq_1, L3.evE.eq_2, L3.evE.eq_3, L3.evE.eq_4, L3.evE.eq_5, L3.evE.eq_6, L3.evE.eq_7, L3.evE.eq_8, L3.evE.eq_9, L3.evE.eq_10, L3.evE.eq_11, L3.evE.eq_12, L3.evE.eq_13, L3.evE.eq_14, L3.evE.eq_15, L3.evE.eq_16, L3.evE.eq_18, L3.evE.eq_19, L3.evE.eq_20, L3.evE.eq_21, L3.evA, L3.evP, Law.evS_whlR, Law.evS_frR, Law.evE_lcR, Law.frR_nil, Law.frR_cons, Law.lcR_nil, Law.lcR_cons, L3.argOf, L3.Rs.bind, L3.opFin, L3.avDs, L3.avD, L3.vDs, L3.Op.keeps, L3.Op.run, L3.i1, L3.i2, L3.a1, L3.a2, L3.l1, L3.gd, L3.oB, L3.oI, L3.toB, L3.toI, L3.rdVar, L3.mvVar, L3.stVar, L3.stR, L3.stTg, L3.stVars, L3.stVarsO, L3.passA, L3.backA, L3.doCall, L3.cellOf, L3.start3, Law.outs1, Law.outs2, Law.outs3, Law.outs4, L3.resOf, L3.runFn, L3.keepB, L3.Ow.isB, L3.Ow.isOwn, L3.isTys, L3.isTy, L3.itFin, L3.ItK.run, L3.kRng1, L3.kRng2, L3.kSeq, L3.seqD, L3.seqD2, L3.kEnm, L3.enmD, Law.fit_of, Law.fit3, L3.noEr, L3.slFin, L3.slice3, L3.shE, L3.Tg.slots, L3.wipeE, L3.restE, L3.asB, Law.sz0, Law.sz1, Law.sz2, L3.rAdd3, L3.rLen3, L3.rLt3, L3.rIdx3, Law.at30, Law.at31, Law.at32, Law.at20, Law.at21, L3.isNone, Law.eqD_int, Law.md0, Law.md1, Law.md2, Law.md3, Law.md4, Law.md5, Law.md6, Law.md7, Law.md8, Law.md9, Law.md10, Law.md11, Law.md12, Law.md13, Law.md14, Law.md15, Law.md16, Law.md17, Law.md18, Law.md19, Law.md20, Law.md21, Law.md22, Law.md23, Law.md24, Law.md25, Law.md26, Law.md27, Law.md28]
    rw [evS_frR, evA_consU (arg_e e) evA_nilU]
    have ei : ∀ en : En, itFin .seq [.v (.tup L)] en = .ok L en := fun en => rfl
    simp only [Rs.bind, ei]
    exact f1
  have t7 := r_7 (callD tb WN (n + 3)) a4 odd y z x one other (2 + r) _ (some (.own, .lst (pairs odd one other (2 + r)))) c10 c11 k11 none none none w1 (fun d => c_word_l (n + 2) d)
  have t8 := r_8 (callD tb WN (n + 3)) a4 odd y z x one other (2 + r) (some (.own, .lst (pairs odd one other (2 + r)))) c10 _ _ none none none w2 (fun d => c_word_l (n + 2) d)
  rw [u27]
  have e5 := (ss_step (ss := .cons B27_1 (.cons B27_2 (.cons B27_3 (.cons B27_4 (.cons B27_5 (.cons B27_6 (.cons B27_7 (.cons B27_8 .nil)))))))) t0).trans ((ss_step t1).trans ((ss_step t2).trans ((ss_step t3).trans ((ss_step t4).trans ((ss_step t5).trans ((ss_step t6).trans ((ss_step t7).trans t8)))))))
  exact (congrArg (resOf 3) e5).trans rfl
end Law

namespace Law
open PySem PySem.Spec PyProof.Rows L2 L3
theorem lcR_fil {C : CR} {md : Nat → List Bool} {vs : List Nat} {tg : Tg} {c e : E} {en0 : En} (p : D → Bool) (g : D → D) : ∀ (items acc : List D),
    (∀ d ∈ items, ∃ en1, stTg tg d false en0 = some en1 ∧ toB (evE C md c en1) = .ok (p d) en1 ∧ (p d = true → ∃ own, evE C md e en1 = .ok (g d, own) en1) ∧ wipeE en1 vs = en0) → acc.length + items.length ≤ sizeLine →
    lcR C md vs tg c e items acc en0 = .ok (acc ++ (items.filter p).map g) en0
  | [], acc, _, _ => by rw [lcR_nil]; simp
  | d :: ds, acc, h, hl => by
    obtain ⟨en1, e1, e2, e3, e4⟩ := h d List.mem_cons_self
    simp only [List.length_cons] at hl
    have ih := fun acc' hl' => lcR_fil p g ds acc' (fun d hd => h d (List.mem_cons_of_mem _ hd)) hl'
    rw [lcR_cons, e1]
    show (noEr (toB (evE C md c en1))).bind _ = _
    rw [e2]
    cases hp : p d with
    | true =>
      obtain ⟨own, e5⟩ := e3 hp
      show (noEr (evE C md e en1)).bind _ = _
      rw [e5]
      show (if decide (acc.length < sizeLine) = true then _ else _) = _
      rw [if_pos (decide_eq_true (by omega)), e4, ih _ (by simp; omega)]
      simp [hp]
    | false =>
      show lcR C md vs tg c e ds acc (wipeE en1 vs) = _
      rw [e4, ih _ (by omega)]
      simp [hp]
/-- those of a rest -/
theorem fil_range (m x : Nat) (hx : x < m) (p : Nat → Bool) (hp : ∀ i, p i = true ↔ i % m = x) : ∀ N, ∃ c, (List.range N).filter p = (List.range c).map (fun k => x + k * m) ∧ N ≤ x + c * m ∧ x + c * m < N + m
  | 0 => ⟨0, rfl, by omega, by omega⟩
  | N + 1 => by
    obtain ⟨c, h1, h2, h3⟩ := fil_range m x hx p hp N
    rw [List.range_succ, List.filter_append, h1]
    by_cases h : N % m = x
    · have e : N = x + c * m := by
        have e1 := Nat.div_add_mod N m
        have e2 : (x + c * m) % m = x := by rw [Nat.add_mul_mod_self_right, Nat.mod_eq_of_lt hx]
        have e3 : (x + c * m) / m = c := by rw [Nat.add_mul_div_right _ _ (by omega), Nat.div_eq_of_lt hx, Nat.zero_add]
        have e4 : N / m ≤ c := by rw [← e3]; exact Nat.div_le_div_right h2
        have e5 : c ≤ N / m := by
          have : (N + m - 1) / m ≤ N / m + 1 := by
            have := Nat.div_le_div_right (c := m) (show N + m - 1 ≤ N + m by omega)
            rw [Nat.add_div_right _ (by omega)] at this
            exact this
          rw [Nat.le_div_iff_mul_le (by omega)]
          have e6 : m * (N / m) = N - x := by omega
          apply Classical.byContradiction
          intro hh
          have h7 : N / m < c := by
            apply Classical.byContradiction
            intro h8
            have : c * m ≤ N / m * m := Nat.mul_le_mul_right m (by omega)
            rw [Nat.mul_comm (N / m)] at this
            omega
          have : (N / m + 1) * m ≤ c * m := Nat.mul_le_mul_right m h7
          rw [Nat.add_mul, Nat.mul_comm (N / m)] at this
          omega
        have : N / m = c := by omega
        rw [this, h, Nat.mul_comm] at e1
        omega
      refine ⟨c + 1, ?_, ?_, ?_⟩
      · have : p N = true := (hp N).mpr h
        rw [List.range_succ, List.map_append]
        simp [this, ← e]
      · rw [Nat.add_mul]; omega
      · rw [Nat.add_mul]; omega
    · have : p N = false := by
        cases hh : p N with
        | false => rfl
        | true => exact absurd ((hp N).mp hh) h
      refine ⟨c, by simp [this], ?_, by omega⟩
      have : N ≠ x + c * m := fun e => h (by rw [e, Nat.add_mul_mod_self_right, Nat.mod_eq_of_lt hx])
      omega
/-- how many -/
theorem cnt_eq {one other number x y : Int} (s : Spl one other number x y) (h1 : 0 < one) (h2 : 0 < other) (c : Nat) (N : Int) (hN : N = if 0 < number / one + 1 then number / one + 1 else 0) (a : N ≤ x + c * other) (b : x + c * other < N + other) : (c : Int) = waysI one y := by
  have hx := s.x0
  have hx1 := s.x1
  have es : number = x * one + y * other := by have := s.e; omega
  have up : 1 ≤ c → ((c : Int) - 1) * one ≤ y := fun hc => by
    have e1 : x + ((c : Int) - 1) * other < N := by rw [Int.sub_mul]; omega
    have e2 : 0 ≤ ((c : Int) - 1) * other := Int.mul_nonneg (by omega) (by omega)
    have e3 : x + ((c : Int) - 1) * other ≤ number / one := by rw [hN] at e1; split at e1 <;> omega
    have e4 := (Int.le_ediv_iff_mul_le h1).mp e3
    rw [Int.add_mul, es] at e4
    have e5 : ((c : Int) - 1) * one * other ≤ y * other := by
      rw [Int.mul_right_comm]; omega
    exact Int.le_of_mul_le_mul_right e5 h2
  unfold waysI
  by_cases hy : 0 ≤ y
  · rw [if_pos hy]
    have k0 := Int.ediv_nonneg hy (show 0 ≤ one by omega)
    have e1 : (x + y / one * other) * one ≤ number := by
      have := Int.ediv_mul_le y (show one ≠ 0 by omega)
      have := Int.mul_le_mul_of_nonneg_right this (show 0 ≤ other by omega)
      rw [Int.add_mul, es, Int.mul_right_comm]; omega
    have e2 := (Int.le_ediv_iff_mul_le h1).mpr e1
    have e3 : 0 ≤ y / one * other := Int.mul_nonneg k0 (by omega)
    have e4 : N = number / one + 1 := by rw [hN, if_pos (by omega)]
    have e5 : y / one * other < c * other := by omega
    have e6 := Int.lt_of_mul_lt_mul_right e5 (show 0 ≤ other by omega)
    have e7 := up (by omega)
    have e8 := (Int.le_ediv_iff_mul_le h1).mpr e7
    omega
  · rw [if_neg hy]
    apply Classical.byContradiction
    intro hc
    have := up (by omega)
    have : 0 ≤ ((c : Int) - 1) * one := Int.mul_nonneg (by omega) (by omega)
    omega
theorem minL_spec : ∀ (L : List Int) (m : Int), m ∈ L → (∀ b ∈ L, m ≤ b) → minL L = some m
  | [], _, h, _ => by cases h
  | a :: r, m, h, hb => by
    unfold minL
    have ha := hb a List.mem_cons_self
    cases r with
    | nil =>
      rcases List.mem_cons.mp h with rfl | h
      · rfl
      · cases h
    | cons a' r' =>
      by_cases hm : m ∈ a' :: r'
      · rw [minL_spec (a' :: r') m hm (fun b hh => hb b (List.mem_cons_of_mem _ hh))]
        show some (if a ≤ m then a else m) = some m
        split
        · congr 1; omega
        · rfl
      · have e : m = a := by
          rcases List.mem_cons.mp h with h | h
          · exact h
          · exact absurd h hm
        subst e
        cases h' : minL (a' :: r') with
        | none => rfl
        | some z =>
          have : z ∈ a' :: r' := minL_mem _ _ h'
          show some (if m ≤ z then m else z) = some m
          rw [if_pos (hb z (List.mem_cons_of_mem _ this))]
where
  minL_mem : ∀ (L : List Int) (z : Int), minL L = some z → z ∈ L
    | [], _, h => by cases h
    | a :: r, z, h => by
      unfold minL at h
      cases e : minL r with
      | none => rw [e] at h; cases h; exact List.mem_cons_self
      | some b =>
        rw [e] at h
        have hb := minL_mem r b e
        simp only [Option.some.injEq] at h
        split at h
        · subst h; exact List.mem_cons_self
        · subst h; exact List.mem_cons_of_mem _ hb
theorem maxL_spec : ∀ (L : List Int) (m : Int), m ∈ L → (∀ b ∈ L, b ≤ m) → maxL L = some m
  | [], _, h, _ => by cases h
  | a :: r, m, h, hb => by
    unfold maxL
    have ha := hb a List.mem_cons_self
    cases r with
    | nil =>
      rcases List.mem_cons.mp h with rfl | h
      · rfl
      · cases h
    | cons a' r' =>
      by_cases hm : m ∈ a' :: r'
      · rw [maxL_spec (a' :: r') m hm (fun b hh => hb b (List.mem_cons_of_mem _ hh))]
        show some (if m ≤ a then a else m) = some m
        split
        · congr 1; omega
        · rfl
      · have e : m = a := by
          rcases List.mem_cons.mp h with h | h
          · exact h
          · exact absurd h hm
        subst e
        cases h' : maxL (a' :: r') with
        | none => rfl
        | some z =>
          have : z ∈ a' :: r' := maxL_mem _ _ h'
          show some (if z ≤ m then m else z) = some m
          rw [if_pos (hb z (List.mem_cons_of_mem _ this))]
where
  maxL_mem : ∀ (L : List Int) (z : Int), maxL L = some z → z ∈ L
    | [], _, h => by cases h
    | a :: r, z, h => by
      unfold maxL at h
      cases e : maxL r with
      | none => rw [e] at h; cases h; exact List.mem_cons_self
      | some b =>
        rw [e] at h
        have hb := maxL_mem r b e
        simp only [Option.some.injEq] at h
        split at h
        · subst h; exact List.mem_cons_self
        · subst h; exact List.mem_cons_of_mem _ hb
end Law

namespace Law
open PySem PySem.Spec PyProof.Rows L2 L3
/-- a small question -/
structure Sm (one other number : Int) : Prop where
  a1 : 1 ≤ one
  a2 : one ≤ 12
  b1 : 1 ≤ other
  b2 : other ≤ 12
  co : Co one other
  n1 : -2 ≤ number
  n2 : number ≤ 300
theorem Sm.qu {one other number : Int} (h : Sm one other number) : Qu one other number := by
  obtain ⟨z1, z2, z3, z4⟩ := lM
  exact ⟨⟨h.a1, by have := h.a2; omega⟩, ⟨h.b1, by have := h.b2; omega⟩, h.co, ⟨by have := h.n1; omega, by have := h.n2; omega⟩⟩
def rowD (one other number : Int) : D → D
  | .int i => .tup [.int i, .int ((number - one * i) / other)]
  | d => d
def isX (one other number : Int) : D → Bool
  | .int i => decide ((number - one * i) % other = 0)
  | _ => false
def xD (x other : Int) (k : Nat) : D := .int (x + k * other)
theorem isX_iff {one other number x y : Int} (q : Qu one other number) (s : Spl one other number x y) (k : Nat) : isX one other number (.int (0 + (k : Int))) = true ↔ k % other.toNat = x.toNat := by
  have h2 := q.p2
  have x0 := s.x0
  have x1 := s.x1
  have ek : ((k % other.toNat : Nat) : Int) = (k : Int) % other := by
    rw [Int.natCast_emod, Int.toNat_of_nonneg (by omega)]
  have e := Int.emod_add_mul_ediv (k : Int) other
  unfold isX
  rw [Int.zero_add, decide_eq_true_eq]
  constructor
  · intro h
    have f : Fst one other number ((k : Int) % other) := by
      refine ⟨Int.emod_nonneg _ (by omega), Int.emod_lt_of_pos _ h2, ?_⟩
      have e1 : (k : Int) % other = k - other * (k / other) := by omega
      have : number - (k : Int) % other * one = (number - one * k) + other * ((k : Int) / other * one) := by
        rw [e1, Int.sub_mul, Int.mul_assoc, Int.mul_comm one]; omega
      rw [this]
      exact Int.dvd_add (Int.dvd_of_emod_eq_zero h) ⟨_, rfl⟩
    have := Fst.uniq q.co q.p1 s.fst f
    omega
  · intro h
    have e1 : (k : Int) % other = x := by omega
    have e2 : (k : Int) = x + other * (k / other) := by omega
    have : number - one * k = other * (y - k / other * one) := by
      have es := s.e
      have e3 : one * (k : Int) = one * x + other * (k / other * one) := by
        conv => lhs; rw [e2]
        rw [Int.mul_add, Int.mul_comm one (other * _), Int.mul_assoc]
      rw [e3, Int.mul_sub, Int.mul_comm one x, Int.mul_comm other y]; omega
    rw [this]
    exact Int.mul_emod_right _ _
theorem c_listed (n : Nat) {one other number x y : Int} (h : Sm one other number) (s : Spl one other number x y) : ∃ c : Nat, (c : Int) = waysI one y ∧ c ≤ 400 ∧
    callD tb WN (n + 1) 23 [(false, .int one), (false, .int other), (false, .int number)] = .ok (.lst ((List.range c).map fun k => rowD one other number (xD x other k))) true [none, none, none] := by
  have q := h.qu
  have h1 := h.a1
  have h2 := h.b1
  have n1 := h.n1
  have n2 := h.n2
  have hx := s.x0
  have hx1 := s.x1
  have a2 := h.a2
  have b2 := h.b2
  let N : Int := if 0 < number / one + 1 then number / one + 1 else 0
  have hNe : N = if 0 < number / one + 1 then number / one + 1 else 0 := rfl
  have dle : number / one ≤ 300 := by
    by_cases z : 0 ≤ number
    · exact Int.le_trans (Int.ediv_le_self one z) n2
    · have := Int.ediv_neg_of_neg_of_pos (show number < 0 by omega) (show 0 < one by omega); omega
  have hN0 : 0 ≤ N := by rw [hNe]; split <;> omega
  have hN1 : N ≤ 301 := by rw [hNe]; split <;> omega
  obtain ⟨c, e1, e2, e3⟩ := fil_range other.toNat x.toNat (by omega) (fun k => isX one other number (.int (0 + (k : Int)))) (fun k => isX_iff q s k) N.toNat
  have ec1 : ((x.toNat + c * other.toNat : Nat) : Int) = x + c * other := by
    rw [Int.natCast_add, Int.natCast_mul, Int.toNat_of_nonneg hx, Int.toNat_of_nonneg (by omega)]
  have hc := cnt_eq s (by omega) (by omega) c N hNe (by omega) (by omega)
  have hc2 : c ≤ 400 := by
    have : (c : Int) * 1 ≤ c * other := Int.mul_le_mul_of_nonneg_left (by omega) (by omega)
    omega
  refine ⟨c, hc, hc2, ?_⟩
  let en0 : En := [some (.sh, .int one), some (.sh, .int other), some (.sh, .int number), none, none]
  have f1 : lcR (callD tb WN n) (mdOf tb) [4] (.nm 4) L23_0c L23_0 (rngI 0 N.toNat) [] en0 = .ok (((rngI 0 N.toNat).filter (isX one other number)).map id) en0 := by
    have := lcR_fil (C := callD tb WN n) (md := mdOf tb) (vs := [4]) (tg := .nm 4) (c := L23_0c) (e := L23_0) (en0 := en0) (isX one other number) id (rngI 0 N.toNat) [] (by
      intro d hd
      unfold rngI at hd
      obtain ⟨k, hk, rfl⟩ := List.mem_map.mp hd
      have hk2 := List.mem_range.mp hk
      refine ⟨[some (.sh, .int one), some (.sh, .int other), some (.sh, .int number), none, some (.sh, .int (0 + (k : Int)))], rfl, ?_, fun _ => ⟨false, rfl⟩, rfl⟩
      have m1 : mulOk one (0 + (k : Int)) = true := mul_l ⟨by omega, by omega⟩
      have b0 : 0 < other := by omega
      have hp : isX one other number (.int (0 + (k : Int))) = decide ((number - one * (0 + (k : Int))) % other = 0) := rfl
      rw [hp]
      generalize 0 + (k : Int) = K at *
      simp [L3.evSs, L3.evS.eq_1, L3.evS.eq_2, L3.evS.eq_3, L3.evS.eq_4, L3.evS.eq_5, L3.evS.eq_6, L3.evS.eq_9, L3.evS.eq_10, L3.evS.eq_11, L3.evS.eq_12, L3.evS.eq_13, L3.evS.eq_14, L3.evE.eq_1, L3.evE.eq_2, L3.evE.eq_3, L3.evE.eq_4, L3.evE.eq_5, L3.evE.eq_6, L3.evE.eq_7, L3.evE.eq_8, L3.evE.eq_9, L3.evE.eq_10, L3.evE.eq_11, L3.evE.eq_12, L3.evE.eq_13, L3.evE.eq_14, L3.evE.eq_15, L3.evE.eq_16, L3.evE.eq_18, L3.evE.eq_19, L3.evE.eq_20, L3.evE.eq_21, L3.evA, L3.evP, Law.evS_whlR, Law.evS_frR, Law.evE_lcR, Law.frR_nil, Law.frR_cons, Law.lcR_nil, Law.lcR_cons, L3.argOf, L3.Rs.bind, L3.opFin, L3.avDs, L3.avD, L3.vDs, L3.Op.keeps, L3.Op.run, L3.i1, L3.i2, L3.a1, L3.a2, L3.l1, L3.gd, L3.oB, L3.oI, L3.toB, L3.toI, L3.rdVar, L3.mvVar, L3.stVar, L3.stR, L3.stTg, L3.stVars, L3.stVarsO, L3.passA, L3.backA, L3.doCall, L3.cellOf, L3.start3, Law.outs1, Law.outs2, Law.outs3, Law.outs4, L3.resOf, L3.runFn, L3.keepB, L3.Ow.isB, L3.Ow.isOwn, L3.isTys, L3.isTy, L3.itFin, L3.ItK.run, L3.kRng1, L3.kRng2, L3.kSeq, L3.seqD, L3.seqD2, L3.kEnm, L3.enmD, Law.fit_of, Law.fit3, L3.noEr, L3.slFin, L3.slice3, L3.shE, L3.Tg.slots, L3.wipeE, L3.restE, L3.asB, Law.sz0, Law.sz1, Law.sz2, L3.rAdd3, L3.rLen3, L3.rLt3, L3.rIdx3, Law.at30, Law.at31, Law.at32, Law.at20, Law.at21, L3.isNone, Law.eqD_int, Law.md0, Law.md1, Law.md2, Law.md3, Law.md4, Law.md5, Law.md6, Law.md7, Law.md8, Law.md9, Law.md10, Law.md11, Law.md12, Law.md13, Law.md14, Law.md15, Law.md16, Law.md17, Law.md18, Law.md19, Law.md20, Law.md21, Law.md22, Law.md23, Law.md24, Law.md25, Law.md26, Law.md27, Law.md28, L23_0c, m1, b0]) (by rw [sizeLine_eq]; simp [rngI]; omega)
    rw [this]; rfl
  have f2 : (rngI 0 N.toNat).filter (isX one other number) = (List.range c).map (xD x other) := by
    unfold rngI
    rw [List.filter_map]
    have : (isX one other number ∘ fun k : Nat => D.int (0 + (k : Int))) = fun k : Nat => isX one other number (.int (0 + (k : Int))) := rfl
    rw [this, e1, List.map_map]
    refine List.map_congr_left fun k _ => ?_
    show D.int (0 + ((x.toNat + k * other.toNat : Nat) : Int)) = D.int (x + k * other)
    rw [Int.natCast_add, Int.natCast_mul, Int.toNat_of_nonneg hx, Int.toNat_of_nonneg (by omega), Int.zero_add]
  rw [f2, List.map_id] at f1
  let en1 : En := [some (.sh, .int one), some (.sh, .int other), some (.sh, .int number), some (.sh, .lst ((List.range c).map (xD x other))), none]
  have f3 : lcR (callD tb WN n) (mdOf tb) [4] (.nm 4) L23_1c L23_1 ((List.range c).map (xD x other)) [] en1 = .ok (((List.range c).map (xD x other)).map (rowD one other number)) en1 := by
    have := lcR_map (C := callD tb WN n) (md := mdOf tb) (vs := [4]) (tg := .nm 4) (c := L23_1c) (e := L23_1) (g := rowD one other number) (en0 := en1) ((List.range c).map (xD x other)) [] (by
      intro d hd
      obtain ⟨k, hk, rfl⟩ := List.mem_map.mp hd
      have hp : rowD one other number (xD x other k) = .tup [.int (x + k * other), .int ((number - one * (x + k * other)) / other)] := rfl
      rw [hp]
      refine ⟨[some (.sh, .int one), some (.sh, .int other), some (.sh, .int number), some (.sh, .lst ((List.range c).map (xD x other))), some (.sh, xD x other k)], rfl, ?_, ⟨false, ?_⟩, rfl⟩
      · simp [L3.evSs, L3.evS.eq_1, L3.evS.eq_2, L3.evS.eq_3, L3.evS.eq_4, L3.evS.eq_5, L3.evS.eq_6, L3.evS.eq_9, L3.evS.eq_10, L3.evS.eq_11, L3.evS.eq_12, L3.evS.eq_13, L3.evS.eq_14, L3.evE.eq_1, L3.evE.eq_2, L3.evE.eq_3, L3.evE.eq_4, L3.evE.eq_5, L3.evE.eq_6, L3.evE.eq_7, L3.evE.eq_8, L3.evE.eq_9, L3.evE.eq_10, L3.evE.eq_11, L3.evE.eq_12, L3.evE.eq_13, L3.evE.eq_14, L3.evE.eq_15, L3.evE.eq_16, L3.evE.eq_18, L3.evE.eq_19, L3.evE.eq_20, L3.evE.eq_21, L3.evA, L3.evP, Law.evS_whlR, Law.evS_frR, Law.evE_lcR, Law.frR_nil, Law.frR_cons, Law.lcR_nil, Law.lcR_cons, L3.argOf, L3.Rs.bind, L3.opFin, L3.avDs, L3.avD, L3.vDs, L3.Op.keeps, L3.Op.run, L3.i1, L3.i2, L3.a1, L3.a2, L3.l1, L3.gd, L3.oB, L3.oI, L3.toB, L3.toI, L3.rdVar, L3.mvVar, L3.stVar, L3.stR, L3.stTg, L3.stVars, L3.stVarsO, L3.passA, L3.backA, L3.doCall, L3.cellOf, L3.start3, Law.outs1, Law.outs2, Law.outs3, Law.outs4, L3.resOf, L3.runFn, L3.keepB, L3.Ow.isB, L3.Ow.isOwn, L3.isTys, L3.isTy, L3.itFin, L3.ItK.run, L3.kRng1, L3.kRng2, L3.kSeq, L3.seqD, L3.seqD2, L3.kEnm, L3.enmD, Law.fit_of, Law.fit3, L3.noEr, L3.slFin, L3.slice3, L3.shE, L3.Tg.slots, L3.wipeE, L3.restE, L3.asB, Law.sz0, Law.sz1, Law.sz2, L3.rAdd3, L3.rLen3, L3.rLt3, L3.rIdx3, Law.at30, Law.at31, Law.at32, Law.at20, Law.at21, L3.isNone, Law.eqD_int, Law.md0, Law.md1, Law.md2, Law.md3, Law.md4, Law.md5, Law.md6, Law.md7, Law.md8, Law.md9, Law.md10, Law.md11, Law.md12, Law.md13, Law.md14, Law.md15, Law.md16, Law.md17, Law.md18, Law.md19, Law.md20, Law.md21, Law.md22, Law.md23, Law.md24, Law.md25, Law.md26, Law.md27, Law.md28, L23_1c]
      · unfold xD
        have m1 : mulOk one (x + k * other) = true := mul_l ⟨by omega, by omega⟩
        have d1 : divOk (number - one * (x + k * other)) other = true := div_s ⟨by omega, by omega⟩
        generalize x + k * other = K at *
        generalize (List.map (fun k => D.int (x + ↑k * other)) (List.range c)) = LL
        simp [L3.evSs, L3.evS.eq_1, L3.evS.eq_2, L3.evS.eq_3, L3.evS.eq_4, L3.evS.eq_5, L3.evS.eq_6, L3.evS.eq_9, L3.evS.eq_10, L3.evS.eq_11, L3.evS.eq_12, L3.evS.eq_13, L3.evS.eq_14, L3.evE.eq_1, L3.evE.eq_2, L3.evE.eq_3, L3.evE.eq_4, L3.evE.eq_5, L3.evE.eq_6, L3.evE.eq_7, L3.evE.eq_8, L3.evE.eq_9, L3.evE.eq_10, L3.evE.eq_11, L3.evE.eq_12, L3.evE.eq_13, L3.evE.eq_14, L3.evE.eq_15, L3.evE.eq_16, L3.evE.eq_18, L3.evE.eq_19, L3.evE.eq_20, L3.evE.eq_21, L3.evA, L3.evP, Law.evS_whlR, Law.evS_frR, Law.evE_lcR, Law.frR_nil, Law.frR_cons, Law.lcR_nil, Law.lcR_cons, L3.argOf, L3.Rs.bind, L3.opFin, L3.avDs, L3.avD, L3.vDs, L3.Op.keeps, L3.Op.run, L3.i1, L3.i2, L3.a1, L3.a2, L3.l1, L3.gd, L3.oB, L3.oI, L3.toB, L3.toI, L3.rdVar, L3.mvVar, L3.stVar, L3.stR, L3.stTg, L3.stVars, L3.stVarsO, L3.passA, L3.backA, L3.doCall, L3.cellOf, L3.start3, Law.outs1, Law.outs2, Law.outs3, Law.outs4, L3.resOf, L3.runFn, L3.keepB, L3.Ow.isB, L3.Ow.isOwn, L3.isTys, L3.isTy, L3.itFin, L3.ItK.run, L3.kRng1, L3.kRng2, L3.kSeq, L3.seqD, L3.seqD2, L3.kEnm, L3.enmD, Law.fit_of, Law.fit3, L3.noEr, L3.slFin, L3.slice3, L3.shE, L3.Tg.slots, L3.wipeE, L3.restE, L3.asB, Law.sz0, Law.sz1, Law.sz2, L3.rAdd3, L3.rLen3, L3.rLt3, L3.rIdx3, Law.at30, Law.at31, Law.at32, Law.at20, Law.at21, L3.isNone, Law.eqD_int, Law.md0, Law.md1, Law.md2, Law.md3, Law.md4, Law.md5, Law.md6, Law.md7, Law.md8, Law.md9, Law.md10, Law.md11, Law.md12, Law.md13, Law.md14, Law.md15, Law.md16, Law.md17, Law.md18, Law.md19, Law.md20, Law.md21, Law.md22, Law.md23, Law.md24, Law.md25, Law.md26, Law.md27, Law.md28, L23_1, m1, d1]) (by rw [sizeLine_eq]; simp; omega)
    rw [this]; rfl
  rw [List.map_map] at f3
  rw [u23]; unfold fn__law_listed
  have d0 : divOk number one = true := div_s ⟨by omega, by omega⟩
  have b0 : inB N = true := by unfold inB; exact decide_eq_true ⟨by omega, by omega⟩
  have g0 : (if 0 < number / one + 1 then number / one + 1 else 0) = N := rfl
  have g00 : (if number / one + 1 > 0 then number / one + 1 else 0) = N := rfl
  simp only [en0] at f1
  simp only [en1] at f3
  clear_value N
  generalize hG : rngI 0 N.toNat = G at f1
  generalize (List.range c).map (xD x other) = G1 at *
  have g1 : ((List.range c).map fun k => rowD one other number (xD x other k)) = List.map (rowD one other number ∘ xD x other) (List.range c) := rfl
  rw [g1]
  generalize List.map (rowD one other number ∘ xD x other) (List.range c) = G2 at *
  simp [L3.evSs, L3.evS.eq_1, L3.evS.eq_2, L3.evS.eq_3, L3.evS.eq_4, L3.evS.eq_5, L3.evS.eq_6, L3.evS.eq_9, L3.evS.eq_10, L3.evS.eq_11, L3.evS.eq_12, L3.evS.eq_13, L3.evS.eq_14, L3.evE.eq_1, L3.evE.eq_2, L3.evE.eq_3, L3.evE.eq_4, L3.evE.eq_5, L3.evE.eq_6, L3.evE.eq_7, L3.evE.eq_8, L3.evE.eq_9, L3.evE.eq_10, L3.evE.eq_11, L3.evE.eq_12, L3.evE.eq_13, L3.evE.eq_14, L3.evE.eq_15, L3.evE.eq_16, L3.evE.eq_18, L3.evE.eq_19, L3.evE.eq_20, L3.evE.eq_21, L3.evA, L3.evP, Law.evS_whlR, Law.evS_frR, Law.evE_lcR, L3.argOf, L3.Rs.bind, L3.opFin, L3.avDs, L3.avD, L3.vDs, L3.Op.keeps, L3.Op.run, L3.i1, L3.i2, L3.a1, L3.a2, L3.l1, L3.gd, L3.oB, L3.oI, L3.toB, L3.toI, L3.rdVar, L3.mvVar, L3.stVar, L3.stR, L3.stTg, L3.stVars, L3.stVarsO, L3.passA, L3.backA, L3.doCall, L3.cellOf, L3.start3, Law.outs1, Law.outs2, Law.outs3, Law.outs4, L3.resOf, L3.runFn, L3.keepB, L3.Ow.isB, L3.Ow.isOwn, L3.isTys, L3.isTy, L3.itFin, L3.ItK.run, L3.kRng1, L3.kRng2, L3.kSeq, L3.seqD, L3.seqD2, L3.kEnm, L3.enmD, Law.fit_of, Law.fit3, L3.noEr, L3.slFin, L3.slice3, L3.shE, L3.Tg.slots, L3.wipeE, L3.restE, L3.asB, Law.sz0, Law.sz1, Law.sz2, L3.rAdd3, L3.rLen3, L3.rLt3, L3.rIdx3, Law.at30, Law.at31, Law.at32, Law.at20, Law.at21, L3.isNone, Law.eqD_int, Law.md0, Law.md1, Law.md2, Law.md3, Law.md4, Law.md5, Law.md6, Law.md7, Law.md8, Law.md9, Law.md10, Law.md11, Law.md12, Law.md13, Law.md14, Law.md15, Law.md16, Law.md17, Law.md18, Law.md19, Law.md20, Law.md21, Law.md22, Law.md23, Law.md24, Law.md25, Law.md26, Law.md27, Law.md28, d0, g0, b0, hG, f1, f3]
end Law

namespace Law
open PySem PySem.Spec PyProof.Rows L2 L3
def lre (h : D) (one other : Int) (c3 c4 c5 c6 : Cell) : En := [some (.brw, h), some (.sh, .int one), some (.sh, .int other), c3, c4, c5, c6, none, none]
def sumD : D → D
  | .tup [.int a, .int b] => .int (a + b)
  | d => d
theorem sums_lc (C : CR) (h : D) (one other number : Int) (c6 : Cell) (c5 : Cell) (R : List D) (hR : ∀ d ∈ R, ∃ a b, d = .tup [.int a, .int b]) (hl : R.length ≤ 1000) :
    lcR C (mdOf tb) [7, 8] (.tp [7, 8]) L26_1c L26_1 R [] (lre h one other (some (.sh, .int number)) (some (.sh, .lst R)) c5 c6) = .ok (R.map sumD) (lre h one other (some (.sh, .int number)) (some (.sh, .lst R)) c5 c6) := by
  have := lcR_map (C := C) (md := mdOf tb) (vs := [7, 8]) (tg := .tp [7, 8]) (c := L26_1c) (e := L26_1) (g := sumD) (en0 := lre h one other (some (.sh, .int number)) (some (.sh, .lst R)) c5 c6) R [] (by
    intro d hd
    obtain ⟨a, b, rfl⟩ := hR d hd
    refine ⟨[some (.brw, h), some (.sh, .int one), some (.sh, .int other), some (.sh, .int number), some (.sh, .lst R), c5, c6, some (.sh, .int a), some (.sh, .int b)], rfl, ?_, ⟨false, ?_⟩, rfl⟩
    · simp [L3.evSs, L3.evS.eq_1, L3.evS.eq_2, L3.evS.eq_3, L3.evS.eq_4, L3.evS.eq_5, L3.evS.eq_6, L3.evS.eq_9, L3.evS.eq_10, L3.evS.eq_11, L3.evS.eq_12, L3.evS.eq_13, L3.evS.eq_14, L3.evE.eq_1, L3.evE.eq_2, L3.evE.eq_3, L3.evE.eq_4, L3.evE.eq_5, L3.evE.eq_6, L3.evE.eq_7, L3.evE.eq_8, L3.evE.eq_9, L3.evE.eq_10, L3.evE.eq_11, L3.evE.eq_12, L3.evE.eq_13, L3.evE.eq_14, L3.evE.eq_15, L3.evE.eq_16, L3.evE.eq_18, L3.evE.eq_19, L3.evE.eq_20, L3.evE.eq_21, L3.evA, L3.evP, Law.evS_whlR, Law.evS_frR, Law.evE_lcR, Law.frR_nil, Law.frR_cons, Law.lcR_nil, Law.lcR_cons, L3.argOf, L3.Rs.bind, L3.opFin, L3.avDs, L3.avD, L3.vDs, L3.Op.keeps, L3.Op.run, L3.i1, L3.i2, L3.a1, L3.a2, L3.l1, L3.gd, L3.oB, L3.oI, L3.toB, L3.toI, L3.rdVar, L3.mvVar, L3.stVar, L3.stR, L3.stTg, L3.stVars, L3.stVarsO, L3.passA, L3.backA, L3.doCall, L3.cellOf, L3.start3, Law.outs1, Law.outs2, Law.outs3, Law.outs4, L3.resOf, L3.runFn, L3.keepB, L3.Ow.isB, L3.Ow.isOwn, L3.isTys, L3.isTy, L3.itFin, L3.ItK.run, L3.kRng1, L3.kRng2, L3.kSeq, L3.seqD, L3.seqD2, L3.kEnm, L3.enmD, Law.fit_of, Law.fit3, L3.noEr, L3.slFin, L3.slice3, L3.shE, L3.Tg.slots, L3.wipeE, L3.restE, L3.asB, Law.sz0, Law.sz1, Law.sz2, L3.rAdd3, L3.rLen3, L3.rLt3, L3.rIdx3, Law.at30, Law.at31, Law.at32, Law.at20, Law.at21, L3.isNone, Law.eqD_int, Law.md0, Law.md1, Law.md2, Law.md3, Law.md4, Law.md5, Law.md6, Law.md7, Law.md8, Law.md9, Law.md10, Law.md11, Law.md12, Law.md13, Law.md14, Law.md15, Law.md16, Law.md17, Law.md18, Law.md19, Law.md20, Law.md21, Law.md22, Law.md23, Law.md24, Law.md25, Law.md26, Law.md27, Law.md28, L26_1c]
    · have e : sumD (.tup [.int a, .int b]) = .int (a + b) := rfl
      rw [e]
      simp [L3.evSs, L3.evS.eq_1, L3.evS.eq_2, L3.evS.eq_3, L3.evS.eq_4, L3.evS.eq_5, L3.evS.eq_6, L3.evS.eq_9, L3.evS.eq_10, L3.evS.eq_11, L3.evS.eq_12, L3.evS.eq_13, L3.evS.eq_14, L3.evE.eq_1, L3.evE.eq_2, L3.evE.eq_3, L3.evE.eq_4, L3.evE.eq_5, L3.evE.eq_6, L3.evE.eq_7, L3.evE.eq_8, L3.evE.eq_9, L3.evE.eq_10, L3.evE.eq_11, L3.evE.eq_12, L3.evE.eq_13, L3.evE.eq_14, L3.evE.eq_15, L3.evE.eq_16, L3.evE.eq_18, L3.evE.eq_19, L3.evE.eq_20, L3.evE.eq_21, L3.evA, L3.evP, Law.evS_whlR, Law.evS_frR, Law.evE_lcR, Law.frR_nil, Law.frR_cons, Law.lcR_nil, Law.lcR_cons, L3.argOf, L3.Rs.bind, L3.opFin, L3.avDs, L3.avD, L3.vDs, L3.Op.keeps, L3.Op.run, L3.i1, L3.i2, L3.a1, L3.a2, L3.l1, L3.gd, L3.oB, L3.oI, L3.toB, L3.toI, L3.rdVar, L3.mvVar, L3.stVar, L3.stR, L3.stTg, L3.stVars, L3.stVarsO, L3.passA, L3.backA, L3.doCall, L3.cellOf, L3.start3, Law.outs1, Law.outs2, Law.outs3, Law.outs4, L3.resOf, L3.runFn, L3.keepB, L3.Ow.isB, L3.Ow.isOwn, L3.isTys, L3.isTy, L3.itFin, L3.ItK.run, L3.kRng1, L3.kRng2, L3.kSeq, L3.seqD, L3.seqD2, L3.kEnm, L3.enmD, Law.fit_of, Law.fit3, L3.noEr, L3.slFin, L3.slice3, L3.shE, L3.Tg.slots, L3.wipeE, L3.restE, L3.asB, Law.sz0, Law.sz1, Law.sz2, L3.rAdd3, L3.rLen3, L3.rLt3, L3.rIdx3, Law.at30, Law.at31, Law.at32, Law.at20, Law.at21, L3.isNone, Law.eqD_int, Law.md0, Law.md1, Law.md2, Law.md3, Law.md4, Law.md5, Law.md6, Law.md7, Law.md8, Law.md9, Law.md10, Law.md11, Law.md12, Law.md13, Law.md14, Law.md15, Law.md16, Law.md17, Law.md18, Law.md19, Law.md20, Law.md21, Law.md22, Law.md23, Law.md24, Law.md25, Law.md26, Law.md27, Law.md28, L26_1]) (by rw [sizeLine_eq]; simp; omega)
  rw [this]; rfl
/-- the rows of a question that can be paid -/
structure Rws (R : List D) (x y m1 m2 : Int) (c : Int) : Prop where
  hR : ∀ d ∈ R, ∃ a b, d = .tup [.int a, .int b]
  hl : (R.length : Int) = c
  h0 : atI R 0 = some (.tup [.int x, .int y])
  hS : ∃ SI, asI (R.map sumD) = some SI ∧ minL SI = some m1 ∧ maxL SI = some m2
theorem asI_map (f : Nat → Int) : ∀ L : List Nat, asI (L.map fun k => D.int (f k)) = some (L.map f)
  | [] => rfl
  | a :: L => by
    show (match asI (L.map fun k => D.int (f k)) with | some r => some (f a :: r) | none => none) = _
    rw [asI_map f L]; rfl
theorem row_at {one other number x y : Int} (s : Spl one other number x y) (h2 : 0 < other) (k : Nat) : rowD one other number (xD x other k) = .tup [.int (x + k * other), .int (y - k * one)] := by
  show D.tup [.int (x + k * other), .int ((number - one * (x + k * other)) / other)] = _
  have : number - one * (x + k * other) = (y - k * one) * other := by
    have es := s.e
    rw [Int.mul_add, Int.mul_comm one x, Int.sub_mul, Int.mul_comm one (k * other), Int.mul_right_comm]; omega
  rw [this, Int.mul_ediv_cancel _ (by omega)]
theorem rws_of {one other number x y : Int} (s : Spl one other number x y) (h1 : 0 < one) (h2 : 0 < other) (hy : 0 ≤ y) (c : Nat) (hc : (c : Int) = waysI one y) :
    Rws ((List.range c).map fun k => rowD one other number (xD x other k)) x y (mnI (en1 x y) (en2 one other x y)) (mxI (en1 x y) (en2 one other x y)) (y / one + 1) := by
  have hw : waysI one y = y / one + 1 := if_pos hy
  have k0 := Int.ediv_nonneg hy (show 0 ≤ one by omega)
  have e : ((List.range c).map fun k => rowD one other number (xD x other k)) = (List.range c).map fun k => .tup [.int (x + k * other), .int (y - k * one)] := List.map_congr_left fun k _ => row_at s h2 k
  rw [e]
  refine ⟨fun d hd => ?_, by simp; omega, ?_, ?_⟩
  · obtain ⟨k, _, rfl⟩ := List.mem_map.mp hd
    exact ⟨_, _, rfl⟩
  · have : ((List.range c).map fun k : Nat => D.tup [.int (x + k * other), .int (y - k * one)])[0]? = some (.tup [.int x, .int y]) := by
      rw [List.getElem?_map, List.getElem?_range (by omega)]
      simp
    exact L3.atI_nat (j := 0) this
  · rw [List.map_map]
    have e2 : (sumD ∘ fun k : Nat => D.tup [.int (x + k * other), .int (y - k * one)]) = fun k : Nat => .int (x + k * other + (y - k * one)) := rfl
    rw [e2]
    refine ⟨_, asI_map (fun k => x + k * other + (y - k * one)) (List.range c), ?_, ?_⟩
    · have hm : mnI (en1 x y) (en2 one other x y) = en1 x y ∨ mnI (en1 x y) (en2 one other x y) = en2 one other x y := by unfold mnI; split <;> simp
      refine minL_spec _ _ ?_ ?_
      · rcases hm with z | z
        · rw [z]; exact List.mem_map.mpr ⟨0, List.mem_range.mpr (by omega), by simp [en1]⟩
        · rw [z]; refine List.mem_map.mpr ⟨(y / one).toNat, List.mem_range.mpr (by omega), ?_⟩
          rw [Int.toNat_of_nonneg k0]; unfold en2; omega
      · intro b hb
        obtain ⟨k, hk, rfl⟩ := List.mem_map.mp hb
        have hk := List.mem_range.mp hk
        rcases Int.le_total one other with z | z
        · have l := (ends_le s h1 hy).1 z
          have : mnI (en1 x y) (en2 one other x y) = x + y := by unfold mnI; rw [if_pos l]; rfl
          rw [this]
          have := Int.mul_le_mul_of_nonneg_left z (show (0 : Int) ≤ k by omega)
          omega
        · have l := (ends_le s h1 hy).2 z
          have : mnI (en1 x y) (en2 one other x y) = en2 one other x y := by unfold mnI; split <;> omega
          rw [this]
          unfold en2
          have := Int.mul_le_mul_of_nonneg_left z (show 0 ≤ y / one - k by omega)
          rw [Int.sub_mul, Int.sub_mul] at this
          omega
    · have hm : mxI (en1 x y) (en2 one other x y) = en1 x y ∨ mxI (en1 x y) (en2 one other x y) = en2 one other x y := by unfold mxI; split <;> simp
      refine maxL_spec _ _ ?_ ?_
      · rcases hm with z | z
        · rw [z]; exact List.mem_map.mpr ⟨0, List.mem_range.mpr (by omega), by simp [en1]⟩
        · rw [z]; refine List.mem_map.mpr ⟨(y / one).toNat, List.mem_range.mpr (by omega), ?_⟩
          rw [Int.toNat_of_nonneg k0]; unfold en2; omega
      · intro b hb
        obtain ⟨k, hk, rfl⟩ := List.mem_map.mp hb
        have hk := List.mem_range.mp hk
        rcases Int.le_total one other with z | z
        · have l := (ends_le s h1 hy).1 z
          have : mxI (en1 x y) (en2 one other x y) = en2 one other x y := by unfold mxI; split <;> omega
          rw [this]
          unfold en2
          have := Int.mul_le_mul_of_nonneg_left z (show 0 ≤ y / one - k by omega)
          rw [Int.sub_mul, Int.sub_mul] at this
          omega
        · have l := (ends_le s h1 hy).2 z
          have : mxI (en1 x y) (en2 one other x y) = x + y := by unfold mxI; rw [if_pos l]; rfl
          rw [this]
          have := Int.mul_le_mul_of_nonneg_left z (show (0 : Int) ≤ k by omega)
          omega
theorem lst_turn (n : Nat) (h : D) {one other number : Int} (q : Sm one other number) (c3 c4 c5 c6 : Cell) (k3 : okc c3) (k4 : okO c4) (k5 : okO c5) (k6 : okO c6) :
    ∃ c4' c5' c6', okO c4' ∧ okO c5' ∧ okO c6' ∧ ((stR (stTg (.nm 3) (.int number) false (lre h one other c3 c4 c5 c6))).bind fun _ en => evSs WN (callD tb WN (n + 4)) (mdOf tb) F26_0 en) = .ok .nx (lre h one other (some (.sh, .int number)) c4' c5' c6') := by
  obtain ⟨x, y, s⟩ := ex_spl q.qu
  obtain ⟨c, hc, hc2, e1⟩ := c_listed (n + 3) q s
  have e2 := c_told n q.qu s
  have b' := intD_pl y (mnI (en1 x y) (en2 one other x y))
  have c' := intD_pl y (mxI (en1 x y) (en2 one other x y))
  have hl : ∀ c5 c6, lcR (callD tb WN (n + 4)) (mdOf tb) [7, 8] (.tp [7, 8]) L26_1c L26_1 ((List.range c).map fun k => rowD one other number (xD x other k)) [] (lre h one other (some (.sh, .int number)) (some (.sh, .lst ((List.range c).map fun k => rowD one other number (xD x other k)))) c5 c6) = .ok _ _ := fun c5 c6 => sums_lc (callD tb WN (n + 4)) h one other number c6 c5 ((List.range c).map fun k => rowD one other number (xD x other k)) (fun d hd => by obtain ⟨k, _, rfl⟩ := List.mem_map.mp hd; exact ⟨_, _, row_at s q.qu.p2 k⟩) (by simp; omega)
  have w5 := hl c5 c6
  unfold lre at w5
  by_cases hy : 0 ≤ y
  · obtain ⟨_, g2, g3, SI, g4, g5, g6⟩ := rws_of s q.qu.p1 q.qu.p2 hy c hc
    have gl : (0 : Int) < y / one + 1 := by have := Int.ediv_nonneg hy (show 0 ≤ one by have := q.a1; omega); omega
    unfold dueL at e2
    rw [payD_ge hy, show waysI one y = y / one + 1 from if_pos hy, show ∀ v, intD y v = .int v from fun v => if_pos hy, show ∀ v, intD y v = .int v from fun v => if_pos hy] at e2
    have e3 := is_lent (n + 3) [.tup [.int x, .int y], .int (y / one + 1), .int (mnI (en1 x y) (en2 one other x y)), .int (mxI (en1 x y) (en2 one other x y))] rfl (by simp [dp, dps])
    generalize ((List.range c).map fun k => rowD one other number (xD x other k)) = R at *
    generalize List.map sumD R = SD at *
    generalize mnI (en1 x y) (en2 one other x y) = m1 at *
    generalize mxI (en1 x y) (en2 one other x y) = m2 at *
    generalize y / one + 1 = w at *
    refine ⟨some (.sh, .lst R), some (.own, .lst SD), some (.sh, .lst [.tup [.int x, .int y], .int w, .int m1, .int m2]), okO_sh, okO_ow, okO_sh, ?_⟩
    rcases k3 with rfl | ⟨_, rfl⟩ <;> rcases k4 with rfl | ⟨_, rfl⟩ | ⟨_, rfl⟩ <;> rcases k5 with rfl | ⟨_, rfl⟩ | ⟨_, rfl⟩ <;> rcases k6 with rfl | ⟨_, rfl⟩ | ⟨_, rfl⟩ <;> simp [L3.evSs, L3.evS.eq_1, L3.evS.eq_2, L3.evS.eq_3, L3.evS.eq_4, L3.evS.eq_5, L3.evS.eq_6, L3.evS.eq_9, L3.evS.eq_10, L3.evS.eq_11, L3.evS.eq_12, L3.evS.eq_13, L3.evS.eq_14, L3.evE.eq_1, L3.evE.eq_2, L3.evE.eq_3, L3.evE.eq_4, L3.evE.eq_5, L3.evE.eq_6, L3.evE.eq_7, L3.evE.eq_8, L3.evE.eq_9, L3.evE.eq_10, L3.evE.eq_11, L3.evE.eq_12, L3.evE.eq_13, L3.evE.eq_14, L3.evE.eq_15, L3.evE.eq_16, L3.evE.eq_18, L3.evE.eq_19, L3.evE.eq_20, L3.evE.eq_21, L3.evA, L3.evP, Law.evS_whlR, Law.evS_frR, Law.evE_lcR, L3.argOf, L3.Rs.bind, L3.opFin, L3.avDs, L3.avD, L3.vDs, L3.Op.keeps, L3.Op.run, L3.i1, L3.i2, L3.a1, L3.a2, L3.l1, L3.gd, L3.oB, L3.oI, L3.toB, L3.toI, L3.rdVar, L3.mvVar, L3.stVar, L3.stR, L3.stTg, L3.stVars, L3.stVarsO, L3.passA, L3.backA, L3.doCall, L3.cellOf, L3.start3, Law.outs1, Law.outs2, Law.outs3, Law.outs4, L3.resOf, L3.runFn, L3.keepB, L3.Ow.isB, L3.Ow.isOwn, L3.isTys, L3.isTy, L3.itFin, L3.ItK.run, L3.kRng1, L3.kRng2, L3.kSeq, L3.seqD, L3.seqD2, L3.kEnm, L3.enmD, Law.fit_of, Law.fit3, L3.noEr, L3.slFin, L3.slice3, L3.shE, L3.Tg.slots, L3.wipeE, L3.restE, L3.asB, Law.sz0, Law.sz1, Law.sz2, L3.rAdd3, L3.rLen3, L3.rLt3, L3.rIdx3, Law.at30, Law.at31, Law.at32, Law.at20, Law.at21, L3.isNone, Law.eqD_int, Law.md0, Law.md1, Law.md2, Law.md3, Law.md4, Law.md5, Law.md6, Law.md7, Law.md8, Law.md9, Law.md10, Law.md11, Law.md12, Law.md13, Law.md14, Law.md15, Law.md16, Law.md17, Law.md18, Law.md19, Law.md20, Law.md21, Law.md22, Law.md23, Law.md24, Law.md25, Law.md26, Law.md27, Law.md28, F26_0, lre, e1, w5, e2, e3, g2, g3, g4, g5, g6, gl, cut54]
  · have hw : waysI one y = 0 := if_neg hy
    have c0 : c = 0 := by omega
    subst c0
    unfold dueL at e2
    rw [payD_lt hy, hw, show ∀ v, intD y v = .non from fun v => if_neg hy, show ∀ v, intD y v = .non from fun v => if_neg hy] at e2
    have e3 := is_lent (n + 3) [.non, .int 0, .non, .non] rfl (by simp [dp, dps])
    have nil0 : ((List.range 0).map fun k => rowD one other number (xD x other k)) = [] := rfl
    rw [nil0] at e1 w5
    refine ⟨some (.sh, .lst []), some (.own, .lst []), some (.sh, .lst [.non, .int 0, .non, .non]), okO_sh, okO_ow, okO_sh, ?_⟩
    rcases k3 with rfl | ⟨_, rfl⟩ <;> rcases k4 with rfl | ⟨_, rfl⟩ | ⟨_, rfl⟩ <;> rcases k5 with rfl | ⟨_, rfl⟩ | ⟨_, rfl⟩ <;> rcases k6 with rfl | ⟨_, rfl⟩ | ⟨_, rfl⟩ <;> simp [L3.evSs, L3.evS.eq_1, L3.evS.eq_2, L3.evS.eq_3, L3.evS.eq_4, L3.evS.eq_5, L3.evS.eq_6, L3.evS.eq_9, L3.evS.eq_10, L3.evS.eq_11, L3.evS.eq_12, L3.evS.eq_13, L3.evS.eq_14, L3.evE.eq_1, L3.evE.eq_2, L3.evE.eq_3, L3.evE.eq_4, L3.evE.eq_5, L3.evE.eq_6, L3.evE.eq_7, L3.evE.eq_8, L3.evE.eq_9, L3.evE.eq_10, L3.evE.eq_11, L3.evE.eq_12, L3.evE.eq_13, L3.evE.eq_14, L3.evE.eq_15, L3.evE.eq_16, L3.evE.eq_18, L3.evE.eq_19, L3.evE.eq_20, L3.evE.eq_21, L3.evA, L3.evP, Law.evS_whlR, Law.evS_frR, Law.evE_lcR, Law.frR_nil, Law.frR_cons, Law.lcR_nil, Law.lcR_cons, L3.argOf, L3.Rs.bind, L3.opFin, L3.avDs, L3.avD, L3.vDs, L3.Op.keeps, L3.Op.run, L3.i1, L3.i2, L3.a1, L3.a2, L3.l1, L3.gd, L3.oB, L3.oI, L3.toB, L3.toI, L3.rdVar, L3.mvVar, L3.stVar, L3.stR, L3.stTg, L3.stVars, L3.stVarsO, L3.passA, L3.backA, L3.doCall, L3.cellOf, L3.start3, Law.outs1, Law.outs2, Law.outs3, Law.outs4, L3.resOf, L3.runFn, L3.keepB, L3.Ow.isB, L3.Ow.isOwn, L3.isTys, L3.isTy, L3.itFin, L3.ItK.run, L3.kRng1, L3.kRng2, L3.kSeq, L3.seqD, L3.seqD2, L3.kEnm, L3.enmD, Law.fit_of, Law.fit3, L3.noEr, L3.slFin, L3.slice3, L3.shE, L3.Tg.slots, L3.wipeE, L3.restE, L3.asB, Law.sz0, Law.sz1, Law.sz2, L3.rAdd3, L3.rLen3, L3.rLt3, L3.rIdx3, Law.at30, Law.at31, Law.at32, Law.at20, Law.at21, L3.isNone, Law.eqD_int, Law.md0, Law.md1, Law.md2, Law.md3, Law.md4, Law.md5, Law.md6, Law.md7, Law.md8, Law.md9, Law.md10, Law.md11, Law.md12, Law.md13, Law.md14, Law.md15, Law.md16, Law.md17, Law.md18, Law.md19, Law.md20, Law.md21, Law.md22, Law.md23, Law.md24, Law.md25, Law.md26, Law.md27, Law.md28, F26_0, lre, e1, w5, e2, e3, cut54]
end Law

namespace Law
open PySem PySem.Spec PyProof.Rows L2 L3
@[reducible] def B28_0 : S := (.asg (.nm 1) (.call 12 (.cons (.pk 0) .nil)))
@[reducible] def B28_1 : S := (.ife (.nt (.call 15 (.cons (.call 22 (.cons (.cst (.int 3)) (.cons (.cst (.int 5)) (.cons (.cst (.int 31)) .nil)))) (.cons (.op .lst (.cons (.op .tup (.cons (.cst (.int 2)) (.cons (.cst (.int 5)) .nil))) (.cons (.cst (.int 2)) (.cons (.cst (.int 7)) (.cons (.cst (.int 9)) (.cons (.op .tup (.cons (.cst (.int 2)) (.cons (.cst (.int 5)) .nil))) .nil)))))) .nil)))) (.cons (.ret (.cst (.bl false))) .nil) .nil)
@[reducible] def B28_2 : S := (.ife (.nt (.call 15 (.cons (.call 22 (.cons (.cst (.int 1)) (.cons (.cst (.int 1)) (.cons (.cst (.int 4)) .nil)))) (.cons (.op .lst (.cons (.op .tup (.cons (.cst (.int 0)) (.cons (.cst (.int 4)) .nil))) (.cons (.cst (.int 5)) (.cons (.cst (.int 4)) (.cons (.cst (.int 4)) (.cons (.op .tup (.cons (.cst (.int 0)) (.cons (.cst (.int 4)) .nil))) .nil)))))) .nil)))) (.cons (.ret (.cst (.bl false))) .nil) .nil)
@[reducible] def B28_3 : S := (.ife (.nt (.call 26 (.cons (.pk 1) .nil))) (.cons (.ret (.cst (.bl false))) .nil) .nil)
@[reducible] def B28_4 : S := (.fr (.nm 2) .seq (.cons (.op .tup (.cons (.cst (.int 9)) (.cons (.cst (.int 1000)) (.cons (.op .pow (.cons (.cst (.int 10)) (.cons (.cst (.int 30)) .nil))) (.cons (.op .mul (.cons (.op .pow (.cons (.cst (.int 10)) (.cons (.cst (.int 50)) .nil))) (.cons (.op .pow (.cons (.cst (.int 10)) (.cons (.cst (.int 50)) .nil))) .nil))) .nil))))) .nil) (.cons (.asg (.tp [3, 4]) (.call 19 (.cons (.pk 1) (.cons (.pk 2) .nil)))) (.cons (.ife (.op .eq (.cons (.call 13 (.cons (.pk 1) (.cons (.cst (.int 8)) .nil))) (.cons (.cst (.int 0)) .nil))) (.cons (.asg (.nm 3) (.cst (.int 1))) .nil) .nil) (.cons (.ife (.or (.nt (.call 25 (.cons (.pk 1) (.cons (.pk 3) (.cons (.pk 4) .nil))))) (.nt (.call 27 (.cons (.pk 1) (.cons (.pk 3) (.cons (.pk 4) .nil)))))) (.cons (.ret (.cst (.bl false))) .nil) .nil) .nil))))
@[reducible] def B28_5 : S := (.ret (.cst (.bl true)))
theorem c_lr (n : Nat) {h : D} (H : Hd h) : ∃ h', Hd h' ∧ callD tb WN (n + 5) 26 [(true, h)] = .ok (.bl true) false [some (.brw, h')] := by
  obtain ⟨h1, a, b, H1, ⟨a1, a2⟩, ⟨b1, b2⟩, co, e0⟩ := c_pair (n + 2) H 12 (by decide) (by decide)
  refine ⟨h1, H1, ?_⟩
  have m1 : mulOk 2 a = true := mul_l ⟨by decide, by decide⟩
  have m2 : mulOk (2 * a) b = true := mul_l ⟨by omega, by omega⟩
  have hb : 2 * a * b ≤ 288 := by
    have := Int.mul_le_mul (show 2 * a ≤ 24 by omega) b2 (by omega) (by decide)
    omega
  have hb0 : 0 ≤ 2 * a * b := Int.mul_nonneg (by omega) (by omega)
  let J : Int := 2 * a * b + 3
  obtain ⟨en', f1, c3, c4, c5, c6, k3, k4, k5, k6, f2⟩ := frR_inv (w := WN) (C := callD tb WN (n + 4)) (md := mdOf tb) (tg := .nm 3) (b := F26_0) (fun en => ∃ c3 c4 c5 c6, okc c3 ∧ okO c4 ∧ okO c5 ∧ okO c6 ∧ en = lre h1 a b c3 c4 c5 c6) (rngI (-2) (J - (-2)).toNat) (lre h1 a b none none none none) ⟨_, _, _, _, .inl rfl, .inl rfl, .inl rfl, .inl rfl, rfl⟩ (by
    intro d hd en ⟨c3, c4, c5, c6, k3, k4, k5, k6, e⟩
    subst e
    unfold rngI at hd
    obtain ⟨k, hk, rfl⟩ := List.mem_map.mp hd
    have hk2 := List.mem_range.mp hk
    obtain ⟨c4', c5', c6', k4', k5', k6', e⟩ := lst_turn n h1 (one := a) (other := b) (number := -2 + k) ⟨a1, a2, b1, b2, co, by omega, by omega⟩ c3 c4 c5 c6 k3 k4 k5 k6
    exact ⟨_, e, _, _, _, _, okc_sh, k4', k5', k6', rfl⟩)
  subst f2
  have i1 : inB (-2) = true := by decide
  have i2 : inB (2 * a * b + 3) = true := by unfold inB; exact decide_eq_true ⟨by omega, by omega⟩
  have eJ : (2 * a * b + 3 - (-2)) = J - (-2) := rfl
  rw [u26]; unfold fn__law_is_listed_right
  have hJ : (J - (-2)).toNat = (2 * a * b + 3 + 2).toNat := by congr 1
  rw [hJ] at f1
  generalize hG : rngI (-2) (2 * a * b + 3 + 2).toNat = G at f1
  simp only [lre] at f1
  simp [L3.evSs, L3.evS.eq_1, L3.evS.eq_2, L3.evS.eq_3, L3.evS.eq_4, L3.evS.eq_5, L3.evS.eq_6, L3.evS.eq_9, L3.evS.eq_10, L3.evS.eq_11, L3.evS.eq_12, L3.evS.eq_13, L3.evS.eq_14, L3.evE.eq_1, L3.evE.eq_2, L3.evE.eq_3, L3.evE.eq_4, L3.evE.eq_5, L3.evE.eq_6, L3.evE.eq_7, L3.evE.eq_8, L3.evE.eq_9, L3.evE.eq_10, L3.evE.eq_11, L3.evE.eq_12, L3.evE.eq_13, L3.evE.eq_14, L3.evE.eq_15, L3.evE.eq_16, L3.evE.eq_18, L3.evE.eq_19, L3.evE.eq_20, L3.evE.eq_21, L3.evA, L3.evP, Law.evS_whlR, Law.evS_frR, Law.evE_lcR, L3.argOf, L3.Rs.bind, L3.opFin, L3.avDs, L3.avD, L3.vDs, L3.Op.keeps, L3.Op.run, L3.i1, L3.i2, L3.a1, L3.a2, L3.l1, L3.gd, L3.oB, L3.oI, L3.toB, L3.toI, L3.rdVar, L3.mvVar, L3.stVar, L3.stR, L3.stTg, L3.stVars, L3.stVarsO, L3.passA, L3.backA, L3.doCall, L3.cellOf, L3.start3, Law.outs1, Law.outs2, Law.outs3, Law.outs4, L3.resOf, L3.runFn, L3.keepB, L3.Ow.isB, L3.Ow.isOwn, L3.isTys, L3.isTy, L3.itFin, L3.ItK.run, L3.kRng1, L3.kRng2, L3.kSeq, L3.seqD, L3.seqD2, L3.kEnm, L3.enmD, Law.fit_of, Law.fit3, L3.noEr, L3.slFin, L3.slice3, L3.shE, L3.Tg.slots, L3.wipeE, L3.restE, L3.asB, Law.sz0, Law.sz1, Law.sz2, L3.rAdd3, L3.rLen3, L3.rLt3, L3.rIdx3, Law.at30, Law.at31, Law.at32, Law.at20, Law.at21, L3.isNone, Law.eqD_int, Law.md0, Law.md1, Law.md2, Law.md3, Law.md4, Law.md5, Law.md6, Law.md7, Law.md8, Law.md9, Law.md10, Law.md11, Law.md12, Law.md13, Law.md14, Law.md15, Law.md16, Law.md17, Law.md18, Law.md19, Law.md20, Law.md21, Law.md22, Law.md23, Law.md24, Law.md25, Law.md26, Law.md27, Law.md28, e0, m1, m2, i1, i2, f1, hG]
def lw (sc h : D) (c2 c3 c4 : Cell) : En := [some (.sh, sc), some (.own, h), c2, c3, c4]
abbrev C8 : CR := callD tb WN 8
theorem co_one (b : Int) : Co 1 b := fun d h _ => h
theorem co35 : Co 3 5 := fun d h1 h2 => by
  have := Int.dvd_sub (Int.dvd_mul_of_dvd_right (b := 2) h1) h2
  exact this
theorem law_turn (sc : D) {h : D} (H : Hd h) (m : Int) (m0 : 1 ≤ m) (m1 : m ≤ MS) (c2 c3 c4 : Cell) (k2 : okc c2) (k3 : okc c3) (k4 : okc c4) :
    ∃ h' c3' c4', Hd h' ∧ okc c3' ∧ okc c4' ∧ ((stR (stTg (.nm 2) (.int m) false (lw sc h c2 c3 c4))).bind fun _ en => evSs WN C8 (mdOf tb) F28_0 en) = .ok .nx (lw sc h' (some (.sh, .int m)) c3' c4') := by
  obtain ⟨h1, a, b, H1, ⟨a1, a2⟩, ⟨b1, b2⟩, co, e0⟩ := c_pair 6 H m m0 m1
  obtain ⟨h2, r, H2, r0, r1, e1⟩ := draw_of 7 8 H1 (by decide) (by decide)
  have ca : Coin a := ⟨a1, by omega⟩
  have cb : Coin b := ⟨b1, by omega⟩
  by_cases hr : r = 0
  · subst hr
    have c1 : Coin 1 := ⟨by decide, by decide⟩
    obtain ⟨h3, H3, e2⟩ := c_right 3 H2 c1 cb (co_one b)
    obtain ⟨h4, H4, e3⟩ := c_errs 4 H3 c1 cb (co_one b)
    refine ⟨h4, some (.sh, .int 1), some (.sh, .int b), H4, okc_sh, okc_sh, ?_⟩
    rcases k2 with rfl | ⟨_, rfl⟩ <;> rcases k3 with rfl | ⟨_, rfl⟩ <;> rcases k4 with rfl | ⟨_, rfl⟩ <;> simp [L3.evSs, L3.evS.eq_1, L3.evS.eq_2, L3.evS.eq_3, L3.evS.eq_4, L3.evS.eq_5, L3.evS.eq_6, L3.evS.eq_9, L3.evS.eq_10, L3.evS.eq_11, L3.evS.eq_12, L3.evS.eq_13, L3.evS.eq_14, L3.evE.eq_1, L3.evE.eq_2, L3.evE.eq_3, L3.evE.eq_4, L3.evE.eq_5, L3.evE.eq_6, L3.evE.eq_7, L3.evE.eq_8, L3.evE.eq_9, L3.evE.eq_10, L3.evE.eq_11, L3.evE.eq_12, L3.evE.eq_13, L3.evE.eq_14, L3.evE.eq_15, L3.evE.eq_16, L3.evE.eq_18, L3.evE.eq_19, L3.evE.eq_20, L3.evE.eq_21, L3.evA, L3.evP, Law.evS_whlR, Law.evS_frR, Law.evE_lcR, Law.frR_nil, Law.frR_cons, Law.lcR_nil, Law.lcR_cons, L3.argOf, L3.Rs.bind, L3.opFin, L3.avDs, L3.avD, L3.vDs, L3.Op.keeps, L3.Op.run, L3.i1, L3.i2, L3.a1, L3.a2, L3.l1, L3.gd, L3.oB, L3.oI, L3.toB, L3.toI, L3.rdVar, L3.mvVar, L3.stVar, L3.stR, L3.stTg, L3.stVars, L3.stVarsO, L3.passA, L3.backA, L3.doCall, L3.cellOf, L3.start3, Law.outs1, Law.outs2, Law.outs3, Law.outs4, L3.resOf, L3.runFn, L3.keepB, L3.Ow.isB, L3.Ow.isOwn, L3.isTys, L3.isTy, L3.itFin, L3.ItK.run, L3.kRng1, L3.kRng2, L3.kSeq, L3.seqD, L3.seqD2, L3.kEnm, L3.enmD, Law.fit_of, Law.fit3, L3.noEr, L3.slFin, L3.slice3, L3.shE, L3.Tg.slots, L3.wipeE, L3.restE, L3.asB, Law.sz0, Law.sz1, Law.sz2, L3.rAdd3, L3.rLen3, L3.rLt3, L3.rIdx3, Law.at30, Law.at31, Law.at32, Law.at20, Law.at21, L3.isNone, Law.eqD_int, Law.md0, Law.md1, Law.md2, Law.md3, Law.md4, Law.md5, Law.md6, Law.md7, Law.md8, Law.md9, Law.md10, Law.md11, Law.md12, Law.md13, Law.md14, Law.md15, Law.md16, Law.md17, Law.md18, Law.md19, Law.md20, Law.md21, Law.md22, Law.md23, Law.md24, Law.md25, Law.md26, Law.md27, Law.md28, F28_0, lw, e0, e1, e2, e3]
  · obtain ⟨h3, H3, e2⟩ := c_right 3 H2 ca cb co
    obtain ⟨h4, H4, e3⟩ := c_errs 4 H3 ca cb co
    refine ⟨h4, some (.sh, .int a), some (.sh, .int b), H4, okc_sh, okc_sh, ?_⟩
    rcases k2 with rfl | ⟨_, rfl⟩ <;> rcases k3 with rfl | ⟨_, rfl⟩ <;> rcases k4 with rfl | ⟨_, rfl⟩ <;> simp [L3.evSs, L3.evS.eq_1, L3.evS.eq_2, L3.evS.eq_3, L3.evS.eq_4, L3.evS.eq_5, L3.evS.eq_6, L3.evS.eq_9, L3.evS.eq_10, L3.evS.eq_11, L3.evS.eq_12, L3.evS.eq_13, L3.evS.eq_14, L3.evE.eq_1, L3.evE.eq_2, L3.evE.eq_3, L3.evE.eq_4, L3.evE.eq_5, L3.evE.eq_6, L3.evE.eq_7, L3.evE.eq_8, L3.evE.eq_9, L3.evE.eq_10, L3.evE.eq_11, L3.evE.eq_12, L3.evE.eq_13, L3.evE.eq_14, L3.evE.eq_15, L3.evE.eq_16, L3.evE.eq_18, L3.evE.eq_19, L3.evE.eq_20, L3.evE.eq_21, L3.evA, L3.evP, Law.evS_whlR, Law.evS_frR, Law.evE_lcR, Law.frR_nil, Law.frR_cons, Law.lcR_nil, Law.lcR_cons, L3.argOf, L3.Rs.bind, L3.opFin, L3.avDs, L3.avD, L3.vDs, L3.Op.keeps, L3.Op.run, L3.i1, L3.i2, L3.a1, L3.a2, L3.l1, L3.gd, L3.oB, L3.oI, L3.toB, L3.toI, L3.rdVar, L3.mvVar, L3.stVar, L3.stR, L3.stTg, L3.stVars, L3.stVarsO, L3.passA, L3.backA, L3.doCall, L3.cellOf, L3.start3, Law.outs1, Law.outs2, Law.outs3, Law.outs4, L3.resOf, L3.runFn, L3.keepB, L3.Ow.isB, L3.Ow.isOwn, L3.isTys, L3.isTy, L3.itFin, L3.ItK.run, L3.kRng1, L3.kRng2, L3.kSeq, L3.seqD, L3.seqD2, L3.kEnm, L3.enmD, Law.fit_of, Law.fit3, L3.noEr, L3.slFin, L3.slice3, L3.shE, L3.Tg.slots, L3.wipeE, L3.restE, L3.asB, Law.sz0, Law.sz1, Law.sz2, L3.rAdd3, L3.rLen3, L3.rLt3, L3.rIdx3, Law.at30, Law.at31, Law.at32, Law.at20, Law.at21, L3.isNone, Law.eqD_int, Law.md0, Law.md1, Law.md2, Law.md3, Law.md4, Law.md5, Law.md6, Law.md7, Law.md8, Law.md9, Law.md10, Law.md11, Law.md12, Law.md13, Law.md14, Law.md15, Law.md16, Law.md17, Law.md18, Law.md19, Law.md20, Law.md21, Law.md22, Law.md23, Law.md24, Law.md25, Law.md26, Law.md27, Law.md28, F28_0, lw, e0, e1, e2, e3, hr]
theorem told1 : C8 22 [(false, .int 3), (false, .int 5), (false, .int 31)] = .ok (.lst [.tup [.int 2, .int 5], .int 2, .int 7, .int 9, .tup [.int 2, .int 5]]) true [none, none, none] :=
  c_told 4 (one := 3) (other := 5) (number := 31) (x := 2) (y := 5) ⟨⟨by decide, by decide⟩, ⟨by decide, by decide⟩, co35, ⟨by decide, by decide⟩⟩ ⟨by decide, by decide, by decide⟩
theorem told2 : C8 22 [(false, .int 1), (false, .int 1), (false, .int 4)] = .ok (.lst [.tup [.int 0, .int 4], .int 5, .int 4, .int 4, .tup [.int 0, .int 4]]) true [none, none, none] :=
  c_told 4 (one := 1) (other := 1) (number := 4) (x := 0) (y := 4) ⟨⟨by decide, by decide⟩, ⟨by decide, by decide⟩, co_one 1, ⟨by decide, by decide⟩⟩ ⟨by decide, by decide, by decide⟩
theorem l_1 (sc h : D) : Ps WN C8 (mdOf tb) (lw sc h none none none) B28_1 (lw sc h none none none) := by
  have e1 := told1
  have e2 := is_refl 3 (.lst [.tup [.int 2, .int 5], .int 2, .int 7, .int 9, .tup [.int 2, .int 5]]) rfl (by simp [dp, dps]) 7 (by decide)
  unfold Ps
  simp [L3.evSs, L3.evS.eq_1, L3.evS.eq_2, L3.evS.eq_3, L3.evS.eq_4, L3.evS.eq_5, L3.evS.eq_6, L3.evS.eq_9, L3.evS.eq_10, L3.evS.eq_11, L3.evS.eq_12, L3.evS.eq_13, L3.evS.eq_14, L3.evE.eq_1, L3.evE.eq_2, L3.evE.eq_3, L3.evE.eq_4, L3.evE.eq_5, L3.evE.eq_6, L3.evE.eq_7, L3.evE.eq_8, L3.evE.eq_9, L3.evE.eq_10, L3.evE.eq_11, L3.evE.eq_12, L3.evE.eq_13, L3.evE.eq_14, L3.evE.eq_15, L3.evE.eq_16, L3.evE.eq_18, L3.evE.eq_19, L3.evE.eq_20, L3.evE.eq_21, L3.evA, L3.evP, Law.evS_whlR, Law.evS_frR, Law.evE_lcR, Law.frR_nil, Law.frR_cons, Law.lcR_nil, Law.lcR_cons, L3.argOf, L3.Rs.bind, L3.opFin, L3.avDs, L3.avD, L3.vDs, L3.Op.keeps, L3.Op.run, L3.i1, L3.i2, L3.a1, L3.a2, L3.l1, L3.gd, L3.oB, L3.oI, L3.toB, L3.toI, L3.rdVar, L3.mvVar, L3.stVar, L3.stR, L3.stTg, L3.stVars, L3.stVarsO, L3.passA, L3.backA, L3.doCall, L3.cellOf, L3.start3, Law.outs1, Law.outs2, Law.outs3, Law.outs4, L3.resOf, L3.runFn, L3.keepB, L3.Ow.isB, L3.Ow.isOwn, L3.isTys, L3.isTy, L3.itFin, L3.ItK.run, L3.kRng1, L3.kRng2, L3.kSeq, L3.seqD, L3.seqD2, L3.kEnm, L3.enmD, Law.fit_of, Law.fit3, L3.noEr, L3.slFin, L3.slice3, L3.shE, L3.Tg.slots, L3.wipeE, L3.restE, L3.asB, Law.sz0, Law.sz1, Law.sz2, L3.rAdd3, L3.rLen3, L3.rLt3, L3.rIdx3, Law.at30, Law.at31, Law.at32, Law.at20, Law.at21, L3.isNone, Law.eqD_int, Law.md0, Law.md1, Law.md2, Law.md3, Law.md4, Law.md5, Law.md6, Law.md7, Law.md8, Law.md9, Law.md10, Law.md11, Law.md12, Law.md13, Law.md14, Law.md15, Law.md16, Law.md17, Law.md18, Law.md19, Law.md20, Law.md21, Law.md22, Law.md23, Law.md24, Law.md25, Law.md26, Law.md27, Law.md28, lw, e1, e2]
theorem l_2 (sc h : D) : Ps WN C8 (mdOf tb) (lw sc h none none none) B28_2 (lw sc h none none none) := by
  have e1 := told2
  have e2 := is_refl 3 (.lst [.tup [.int 0, .int 4], .int 5, .int 4, .int 4, .tup [.int 0, .int 4]]) rfl (by simp [dp, dps]) 7 (by decide)
  unfold Ps
  simp [L3.evSs, L3.evS.eq_1, L3.evS.eq_2, L3.evS.eq_3, L3.evS.eq_4, L3.evS.eq_5, L3.evS.eq_6, L3.evS.eq_9, L3.evS.eq_10, L3.evS.eq_11, L3.evS.eq_12, L3.evS.eq_13, L3.evS.eq_14, L3.evE.eq_1, L3.evE.eq_2, L3.evE.eq_3, L3.evE.eq_4, L3.evE.eq_5, L3.evE.eq_6, L3.evE.eq_7, L3.evE.eq_8, L3.evE.eq_9, L3.evE.eq_10, L3.evE.eq_11, L3.evE.eq_12, L3.evE.eq_13, L3.evE.eq_14, L3.evE.eq_15, L3.evE.eq_16, L3.evE.eq_18, L3.evE.eq_19, L3.evE.eq_20, L3.evE.eq_21, L3.evA, L3.evP, Law.evS_whlR, Law.evS_frR, Law.evE_lcR, Law.frR_nil, Law.frR_cons, Law.lcR_nil, Law.lcR_cons, L3.argOf, L3.Rs.bind, L3.opFin, L3.avDs, L3.avD, L3.vDs, L3.Op.keeps, L3.Op.run, L3.i1, L3.i2, L3.a1, L3.a2, L3.l1, L3.gd, L3.oB, L3.oI, L3.toB, L3.toI, L3.rdVar, L3.mvVar, L3.stVar, L3.stR, L3.stTg, L3.stVars, L3.stVarsO, L3.passA, L3.backA, L3.doCall, L3.cellOf, L3.start3, Law.outs1, Law.outs2, Law.outs3, Law.outs4, L3.resOf, L3.runFn, L3.keepB, L3.Ow.isB, L3.Ow.isOwn, L3.isTys, L3.isTy, L3.itFin, L3.ItK.run, L3.kRng1, L3.kRng2, L3.kSeq, L3.seqD, L3.seqD2, L3.kEnm, L3.enmD, Law.fit_of, Law.fit3, L3.noEr, L3.slFin, L3.slice3, L3.shE, L3.Tg.slots, L3.wipeE, L3.restE, L3.asB, Law.sz0, Law.sz1, Law.sz2, L3.rAdd3, L3.rLen3, L3.rLt3, L3.rIdx3, Law.at30, Law.at31, Law.at32, Law.at20, Law.at21, L3.isNone, Law.eqD_int, Law.md0, Law.md1, Law.md2, Law.md3, Law.md4, Law.md5, Law.md6, Law.md7, Law.md8, Law.md9, Law.md10, Law.md11, Law.md12, Law.md13, Law.md14, Law.md15, Law.md16, Law.md17, Law.md18, Law.md19, Law.md20, Law.md21, Law.md22, Law.md23, Law.md24, Law.md25, Law.md26, Law.md27, Law.md28, lw, e1, e2]
theorem l_3 (sc : D) {h : D} (H : Hd h) : ∃ h', Hd h' ∧ Ps WN C8 (mdOf tb) (lw sc h none none none) B28_3 (lw sc h' none none none) := by
  obtain ⟨h', H', e⟩ := c_lr 3 H
  refine ⟨h', H', ?_⟩
  unfold Ps
  simp [L3.evSs, L3.evS.eq_1, L3.evS.eq_2, L3.evS.eq_3, L3.evS.eq_4, L3.evS.eq_5, L3.evS.eq_6, L3.evS.eq_9, L3.evS.eq_10, L3.evS.eq_11, L3.evS.eq_12, L3.evS.eq_13, L3.evS.eq_14, L3.evE.eq_1, L3.evE.eq_2, L3.evE.eq_3, L3.evE.eq_4, L3.evE.eq_5, L3.evE.eq_6, L3.evE.eq_7, L3.evE.eq_8, L3.evE.eq_9, L3.evE.eq_10, L3.evE.eq_11, L3.evE.eq_12, L3.evE.eq_13, L3.evE.eq_14, L3.evE.eq_15, L3.evE.eq_16, L3.evE.eq_18, L3.evE.eq_19, L3.evE.eq_20, L3.evE.eq_21, L3.evA, L3.evP, Law.evS_whlR, Law.evS_frR, Law.evE_lcR, Law.frR_nil, Law.frR_cons, Law.lcR_nil, Law.lcR_cons, L3.argOf, L3.Rs.bind, L3.opFin, L3.avDs, L3.avD, L3.vDs, L3.Op.keeps, L3.Op.run, L3.i1, L3.i2, L3.a1, L3.a2, L3.l1, L3.gd, L3.oB, L3.oI, L3.toB, L3.toI, L3.rdVar, L3.mvVar, L3.stVar, L3.stR, L3.stTg, L3.stVars, L3.stVarsO, L3.passA, L3.backA, L3.doCall, L3.cellOf, L3.start3, Law.outs1, Law.outs2, Law.outs3, Law.outs4, L3.resOf, L3.runFn, L3.keepB, L3.Ow.isB, L3.Ow.isOwn, L3.isTys, L3.isTy, L3.itFin, L3.ItK.run, L3.kRng1, L3.kRng2, L3.kSeq, L3.seqD, L3.seqD2, L3.kEnm, L3.enmD, Law.fit_of, Law.fit3, L3.noEr, L3.slFin, L3.slice3, L3.shE, L3.Tg.slots, L3.wipeE, L3.restE, L3.asB, Law.sz0, Law.sz1, Law.sz2, L3.rAdd3, L3.rLen3, L3.rLt3, L3.rIdx3, Law.at30, Law.at31, Law.at32, Law.at20, Law.at21, L3.isNone, Law.eqD_int, Law.md0, Law.md1, Law.md2, Law.md3, Law.md4, Law.md5, Law.md6, Law.md7, Law.md8, Law.md9, Law.md10, Law.md11, Law.md12, Law.md13, Law.md14, Law.md15, Law.md16, Law.md17, Law.md18, Law.md19, Law.md20, Law.md21, Law.md22, Law.md23, Law.md24, Law.md25, Law.md26, Law.md27, Law.md28, lw, e]
theorem plain (ns : List Int) (hn : ns.length ≤ 63) : ∃ outs, callD tb WN 9 28 [(false, .fls (ns.map D.int))] = .ok (.bl true) false outs := by
  refine ⟨[none], ?_⟩
  rw [u28]
  let sc : D := .fls (ns.map D.int)
  let h0 : D := hand (ns.map absI) 0 0 (61 + 9 * ns.length) 0
  have q0 : ([some (.sh, sc), none, none, none, none] : En)[0]? = some (some (.sh, sc)) := rfl
  have e1 : evE C8 (mdOf tb) (.call 12 (.cons (.pk 0) .nil)) [some (.sh, sc), none, none, none, none] = .ok (h0, true) [some (.sh, sc), none, none, none, none] :=
    evE_callU (evA_consU (arg_pk q0) evA_nilU) rfl (by show callD tb WN (7 + 1) 12 _ = _; rw [c_hand]; exact hand_ok (w := WN) (C := callD tb WN 7) (md := mdOf tb) hn (by decide)) rfl
  have H0 : Hd h0 := ⟨_, _, _, _, _, rfl, fun x hx => by obtain ⟨i, _, rfl⟩ := List.mem_map.mp hx; exact absI_nn i, by decide, by decide⟩
  have s0 : Ps WN C8 (mdOf tb) [some (.sh, sc), none, none, none, none] B28_0 (lw sc h0 none none none) := ps_asgU e1 rfl
  have s1 := l_1 sc h0
  have s2 := l_2 sc h0
  obtain ⟨h1, H1, s3⟩ := l_3 sc H0
  obtain ⟨en2, f1, f2⟩ := frR_inv (w := WN) (C := C8) (md := mdOf tb) (tg := .nm 2) (b := F28_0) (fun en => ∃ h c2 c3 c4, Hd h ∧ okc c2 ∧ okc c3 ∧ okc c4 ∧ en = lw sc h c2 c3 c4) [.int 9, .int 1000, .int (10 ^ 30), .int MS] (lw sc h1 none none none) ⟨_, _, _, _, H1, .inl rfl, .inl rfl, .inl rfl, rfl⟩ (by
    intro d hd en ⟨h, c2, c3, c4, H, k2, k3, k4, e⟩
    subst e
    have : ∃ m : Int, d = .int m ∧ 1 ≤ m ∧ m ≤ MS := by
      simp only [List.mem_cons, List.not_mem_nil, or_false] at hd
      rcases hd with rfl | rfl | rfl | rfl <;> exact ⟨_, rfl, by decide, by decide⟩
    obtain ⟨m, rfl, m0, m1⟩ := this
    obtain ⟨h', c3', c4', H', k3', k4', e⟩ := law_turn sc H m m0 m1 c2 c3 c4 k2 k3 k4
    exact ⟨_, e, _, _, _, _, H', okc_sh, k3', k4', rfl⟩)
  have s4 : Ps WN C8 (mdOf tb) (lw sc h1 none none none) B28_4 en2 := by
    unfold Ps
    have e : evE C8 (mdOf tb) (.op .tup (.cons (.cst (.int 9)) (.cons (.cst (.int 1000)) (.cons (.op .pow (.cons (.cst (.int 10)) (.cons (.cst (.int 30)) .nil))) (.cons (.op .mul (.cons (.op .pow (.cons (.cst (.int 10)) (.cons (.cst (.int 50)) .nil))) (.cons (.op .pow (.cons (.cst (.int 10)) (.cons (.cst (.int 50)) .nil))) .nil))) .nil))))) (lw sc h1 none none none) = .ok (.tup [.int 9, .int 1000, .int (10 ^ 30), .int MS], false) (lw sc h1 none none none) := by
      simp [L3.evSs, L3.evS.eq_1, L3.evS.eq_2, L3.evS.eq_3, L3.evS.eq_4, L3.evS.eq_5, L3.evS.eq_6, L3.evS.eq_9, L3.evS.eq_10, L3.evS.eq_11, L3.evS.eq_12, L3.evS.eq_13, L3.evS.eq_14, L3.evE.eq_1, L3.evE.eq_2, L3.evE.eq_3, L3.evE.eq_4, L3.evE.eq_5, L3.evE.eq_6, L3.evE.eq_7, L3.evE.eq_8, L3.evE.eq_9, L3.evE.eq_10, L3.evE.eq_11, L3.evE.eq_12, L3.evE.eq_13, L3.evE.eq_14, L3.evE.eq_15, L3.evE.eq_16, L3.evE.eq_18, L3.evE.eq_19, L3.evE.eq_20, L3.evE.eq_21, L3.evA, L3.evP, Law.evS_whlR, Law.evS_frR, Law.evE_lcR, Law.frR_nil, Law.frR_cons, Law.lcR_nil, Law.lcR_cons, L3.argOf, L3.Rs.bind, L3.opFin, L3.avDs, L3.avD, L3.vDs, L3.Op.keeps, L3.Op.run, L3.i1, L3.i2, L3.a1, L3.a2, L3.l1, L3.gd, L3.oB, L3.oI, L3.toB, L3.toI, L3.rdVar, L3.mvVar, L3.stVar, L3.stR, L3.stTg, L3.stVars, L3.stVarsO, L3.passA, L3.backA, L3.doCall, L3.cellOf, L3.start3, Law.outs1, Law.outs2, Law.outs3, Law.outs4, L3.resOf, L3.runFn, L3.keepB, L3.Ow.isB, L3.Ow.isOwn, L3.isTys, L3.isTy, L3.itFin, L3.ItK.run, L3.kRng1, L3.kRng2, L3.kSeq, L3.seqD, L3.seqD2, L3.kEnm, L3.enmD, Law.fit_of, Law.fit3, L3.noEr, L3.slFin, L3.slice3, L3.shE, L3.Tg.slots, L3.wipeE, L3.restE, L3.asB, Law.sz0, Law.sz1, Law.sz2, L3.rAdd3, L3.rLen3, L3.rLt3, L3.rIdx3, Law.at30, Law.at31, Law.at32, Law.at20, Law.at21, L3.isNone, Law.eqD_int, Law.md0, Law.md1, Law.md2, Law.md3, Law.md4, Law.md5, Law.md6, Law.md7, Law.md8, Law.md9, Law.md10, Law.md11, Law.md12, Law.md13, Law.md14, Law.md15, Law.md16, Law.md17, Law.md18, Law.md19, Law.md20, Law.md21, Law.md22, Law.md23, Law.md24, Law.md25, Law.md26, Law.md27, Law.md28, pow30, pow50, mok50]
    rw [evS_frR, evA_consU (arg_e e) evA_nilU]
    have ei : ∀ en : En, itFin .seq [.v (.tup [.int 9, .int 1000, .int (10 ^ 30), .int MS])] en = .ok [.int 9, .int 1000, .int (10 ^ 30), .int MS] en := fun en => rfl
    simp only [Rs.bind, ei]
    exact f1
  obtain ⟨h, c2, c3, c4, H, k2, k3, k4, rfl⟩ := f2
  have e5 := (ss_step (ss := .cons B28_1 (.cons B28_2 (.cons B28_3 (.cons B28_4 (.cons B28_5 .nil))))) s0).trans ((ss_step s1).trans ((ss_step s2).trans ((ss_step s3).trans ((ss_step s4).trans (ss_ret (ss := .nil) (pe_cst (d := .bl true)))))))
  exact (congrArg (resOf 1) e5).trans rfl
end Law

theorem PySem.Challenge.cw_paidornot_k58_whole_two_coins_ways_holds : PySem.Challenge.rw_paidornot_k58_whole_two_coins_ways.Holds := by
  exact Law.from_plain 9 20000 (by decide) Law.plain

